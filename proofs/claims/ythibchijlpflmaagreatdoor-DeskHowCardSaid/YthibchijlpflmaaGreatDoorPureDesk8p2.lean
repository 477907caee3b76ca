/- Plain facts of what the functions of this seat compute, part 2. -/
import Derived.Test.YthibchijlpflmaaGreatDoorPureDesk8
import Derived.KernelRfl
import Derived.Lib.SlicesCompact
import Derived.Lib.SplitLaws
open BitVec renaming ofNat→qBB, ofInt→qBM
open Bool renaming false_eq_true→qBq, and_eq_true→qBY, not_true→qB5, or_eq_true→qCE, not_eq_true'→qCG, not_false→qDn
open Int renaming eq_ofNat_of_zero_le→qBf, toNat_natCast→qBh, ediv_le_self→qDb
open List renaming getElem?_eq_getElem→qBc, replicate→qBd, mem_of_getElem?→qBe, mem_append→qBg, mem_cons→qBi, drop_eq_getElem_cons→qBj, length_append→qBk, drop_eq_nil_of_le→qBm, append_assoc→qBn, mem_cons_self→qBp, mem_cons_of_mem→qBt, getElem_mem→qBu, getElem?_eq_some_iff→qBv, range→qBx, nil_append→qBy, length_cons→qBA, length_map→qBD, drop_zero→qBL, append_nil→qBR, cons_append→qB2, mem_filter→qB7, ext_getElem→qB8, perm_middle→qCe, replicate_succ→qCi, take_length→qCk, length_nil→qCD, length_singleton→qCS, filter_cons→qCW, filter_sublist→qCY, drop_succ_cons→qCZ, singleton_append→qDf, range_succ→qDh
open List.Perm renaming refl→qBF
open Nat renaming le_refl→qBo, zero_le→qBC, mul_le_mul_right→qBG, pow_le_pow_right→qBP, add_mul→qBX, zero_add→qB0, div_le_div_right→qCq, div_le_self→qCF, add_comm→qCJ, add_sub_cancel→qCO, div_add_mod→qC2, mul_le_mul→qC5, lt_succ_self→qDA, one_mul→qDR
open Option renaming bind_some→qBb, bind_eq_some_iff→qBK, map_bind→qDI
open Option.some renaming injEq→qBl
open Prod.mk renaming injEq→qDu
namespace Go.Proofs.YthibchijlpflmaaGreatDoor
open Go SX
variable {F:Nat} {rec68:(List (Int×Int)×qDU×Int)→Option (List (Int×Int)×qDU)} {l:qDU} {lea0:Int} {o:List (Int×Int)} {rest:qDU} {i:Int}
variable {F:Nat} {g:List (qDU)} {B l K:Int}
theorem qzm {σ τ:Type}{F:Nat}{yy:σ→qDU→Option (σ ⊕ τ)}{X:List (qDU)}{a b:Int}{cs:qDU}{i:Nat}{rec163:(Int×σ)→Option (σ ⊕ τ)}(hF:200000≤F)(hX:Rws X)(hb:0≤b∧b<(X.length:Int))(hm:cs.length≤1000000):∀ (k j:Nat) (s:σ),cs.length<k+j→j≤cs.length →
  ye F yy rec163 X a (i:Int) b cs k ((j:Int),s)=(qa0 yy (t3 X a b (cs.drop j)) s).bind (Sum.elim (fun s'=>jn F yy rec163 (i:Int) s') (fun t=>some (.inr t)))
 | 0,_,_,_,_=>by omega
 | k+1,j,s,h,hj=>by
  show jl F yy rec163 X a (i:Int) b cs (ye F yy rec163 X a (i:Int) b cs k) (j:Int) s=_
  unfold jl jo
  by_cases hlt:j<cs.length
  ·obtain ⟨bn,rfl⟩:=qBf hb.1
   have hbl:bn<X.length:=by omega
   have hrow:=hX.2 _ (qBu hbl)
   have hrec:=fun s=>qzm (F:=F) (yy:=yy) (X:=X) (a:=a) (b:=(bn:Int)) (i:=i) (rec163:=rec163) hF hX hb hm k (j+1) s (by omega) (by omega)
   rw[if_pos (by simp_all),qo,qBc hlt,qBj hlt]
   simp only[qBb]
   rw[qo,qBc hbl]
   simp only[qBb]
   obtain ⟨p,hp⟩:=qj5 (F:=F) hF (v:=cs[j]) hrow.1 (by omega)
   rw[hp]
   simp only[qBb]
   rw[qs (by omega)]
   have e:rowX X (bn:Int)=X[bn]:=by grind [rowX]
   by_cases hc:(decide (cs[j]∈X[bn]) && decide (a<(bn:Int)))=true
   ·have e3:t3 X a (bn:Int) (cs[j]::cs.drop (j+1))=[a,(bn:Int),cs[j]]::t3 X a (bn:Int) (cs.drop (j+1)):=by
     grind [t3]
    rw[if_pos hc,e3]
    unfold qa0
    cases yy s [a,(bn:Int),cs[j]] with
    | none=>rfl
    | some r =>
     grind
   grind [t3]
  ·rw[if_neg (by simp_all),qBm (by omega)]
   rfl
theorem qxa {σ τ:Type}{F a:Nat}{yy:σ→qDU→Option (σ ⊕ τ)}{X:List (qDU)}{l:qDU}{rec115:(Int×σ)→Option (σ ⊕ τ)}(hF:200000≤F)(hX:Rws X)(hl:∀ x∈l,0≤x∧x<(X.length:Int))(hm:l.length≤100):∀ (k i:Nat) (s:σ),l.length<k+i→i≤l.length →
  q9 F yy rec115 X (a:Int) l k ((i:Int),s)=(qa0 yy (t2 X (a:Int) (l.drop i)) s).bind (Sum.elim (fun s'=>jm F yy rec115 (a:Int) s') (fun t=>some (.inr t)))
 | 0,_,_,_,_=>by omega
 | k+1,i,s,h,hi=>by
  show jk F yy rec115 X (a:Int) l (q9 F yy rec115 X (a:Int) l k) (i:Int) s=_
  unfold jk
  by_cases hlt:i<l.length
  ·have hs:=qkp (l:=l) (i:=i+1) (j:=l.length) (by omega) (by omega)
   rw[qCk] at hs
   rw[if_pos (by simp_all),qo,qBc hlt,qBj hlt]
   simp only[qBb]
   rw[qs (by omega),hs]
   simp only[qBb]
   have hin:=qzm (F:=F) (yy:=yy) (X:=X) (a:=(a:Int)) (b:=l[i]) (cs:=l.drop (i+1)) (i:=i) (rec163:=q9 F yy rec115 X (a:Int) l k) hF hX (hl _ (qBu hlt)) (by grind) F 0 s (by grind) (by omega)
   rw[qBL] at hin
   refine Eq.trans hin ?_
   unfold t2
   rw[qg1]
   cases qa0 yy (t3 X (a:Int) l[i] (l.drop (i+1))) s with
   | none=>rfl
   | some r =>
    cases r with
    | inl s' =>
     simp only[qBb,Sum.elim_inl]
     unfold jn
     rw[qs (by omega)]
     exact qxa hF hX hl hm k (i+1) s' (by omega) (by omega)
    | inr t=>rfl
  ·rw[if_neg (by simp_all),qBm (by omega)]
   rfl
theorem qxb {σ τ:Type}{F:Nat}{yy:σ→qDU→Option (σ ⊕ τ)}{X:List (qDU)}(hF:200000≤F)(hX:Rws X):∀ (k a:Nat) (s:σ),X.length<k+a→a≤X.length →
  qL F yy X k ((a:Int),s)=qa0 yy (t1 X a (X.drop a)) s
 | 0,_,_,_,_=>by omega
 | k+1,a,s,h,ha=>by
  have h1:=hX.1
  show ji F yy X (qL F yy X k) (a:Int) s=_
  unfold ji
  by_cases hlt:a<X.length
  ·have hrow:=hX.2 _ (qBu hlt)
   rw[if_pos (by simp_all),qo,qBc hlt,qBj hlt]
   simp only[qBb]
   have hin:=qxa (F:=F) (a:=a) (yy:=yy) (X:=X) (l:=X[a]) (rec115:=qL F yy X k) hF hX hrow.2.2 hrow.2.1 F 0 s (by omega) (by omega)
   rw[qBL] at hin
   refine Eq.trans hin ?_
   unfold t1
   rw[qg1]
   cases qa0 yy (t2 X (a:Int) X[a]) s with
   | none=>rfl
   | some r =>
    cases r with
    | inl s' =>
     simp only[qBb,Sum.elim_inl]
     unfold jm
     rw[qs (by omega)]
     exact qxb hF hX k (a+1) s' (by omega) (by omega)
    | inr t=>rfl
  ·rw[if_neg (by simp_all),qBm (by omega)]
   rfl
def cntC (n:Nat)(l:qDU):qDU:=(qBx n).map fun (i:Nat)=>((l.count (i:Int):Nat):Int)
theorem qxz {n i:Nat}{l:qDU}(h:i<n):(cntC n l)[i]?=some ((l.count (i:Int):Nat):Int):=by simp[cntC,h]
theorem quO {n a:Nat}{l:qDU}:(cntC n l).set a ((l.count (a:Int)+1:Nat):Int)=cntC n (l++[(a:Int)]):=by
 apply qB8 (by simp[cntC])
 intro i h1 h2
 rw[List.getElem_set]
 simp only[cntC,List.getElem_map,List.getElem_range,List.count_append]
 grind
theorem qxA {n a:Nat}{l:qDU}{lim:Nat}(ha:a<n)(hl:l.length≤lim)(hlim:lim≤1000000000):idx (cntC n l) (a:Int)=some ((l.count (a:Int):Nat):Int)∧(cntC n l).set a (iadd .i64 ((l.count (a:Int):Nat):Int) 1)=cntC n (l++[(a:Int)]):=by
 have:=List.count_le_length (a:=(a:Int)) (l:=l)
 exact ⟨by rw[qo,qxz ha],by rw[qs (by omega),quO]⟩
theorem qxc {n:Nat}{al:Nat}{l:qDU}{a b c:Nat}(hF:10≤F)(ha:a<n)(hb:b<n)(hc:c<n)(hl:l.length≤100000000)(hal:al≤100000000):yd F (al:Int) (cntC n l) [(a:Int),(b:Int),(c:Int)]=some (.inl (((al+1:Nat):Int),cntC n (l++[(a:Int),(b:Int),(c:Int)]))):=by
 obtain ⟨k,rfl⟩:=Nat.exists_eq_add_of_le hF
 unfold yd chk
 rw[if_pos (by simp),if_pos (by simp),qCJ]
 have step:∀ (fu x i:Nat) (l:qDU) (m:qDU),x<n→l.length≤200000000→i<3→[(a:Int),(b:Int),(c:Int)][i]?=some (x:Int)→jW (k+10) (al:Int) [(a:Int),(b:Int),(c:Int)] (fu+1) ((i:Int),cntC n l)=jW (k+10) (al:Int) [(a:Int),(b:Int),(c:Int)] fu (((i+1:Nat):Int),cntC n (l++[(x:Int)])):=by
  intro fu x i l m hx hl hi hg
  show jV (k+10) (al:Int) [(a:Int),(b:Int),(c:Int)] (jW (k+10) (al:Int) [(a:Int),(b:Int),(c:Int)] fu) (i:Int) (cntC n l)=_
  unfold jV
  obtain ⟨e1,e2⟩:=qxA (n:=n) (a:=x) (l:=l) (lim:=200000000) hx hl (by omega)
  rw[if_pos (by simp;omega)]
  simp only[chk]
  rw[if_pos (by simp),qo,hg]
  simp only[qBb]
  rw[e1]
  simp only[qBb,lett,qBh]
  rw[e2,qs (by omega)]
 have h0:=step (k+9) a 0 l [] ha (by omega) (by omega) rfl
 have h1:=step (k+8) b 1 (l++[(a:Int)]) [] hb (by simp;omega) (by omega) rfl
 have h2:=step (k+7) c 2 (l++[(a:Int)]++[(b:Int)]) [] hc (by simp;omega) (by omega) rfl
 refine Eq.trans h0 (Eq.trans h1 (Eq.trans h2 ?_))
 show jV (k+10) (al:Int) [(a:Int),(b:Int),(c:Int)] (jW (k+10) (al:Int) [(a:Int),(b:Int),(c:Int)] (k+6)) ((3:Nat):Int) (cntC n (l++[(a:Int)]++[(b:Int)]++[(c:Int)]))=_
 unfold jV
 rw[if_neg (by simp),qs (by omega)]
 simp
def Tri (n:Nat)(x:qDU):Prop:=∃ a b c:Nat,x=[(a:Int),(b:Int),(c:Int)]∧a<n∧b<n∧c<n
theorem qtd {F n:Nat}{yy:(Int×qDU)→qDU→Option ((Int×qDU) ⊕ Empty)}(hF:10≤F)(hy:∀ s p,yy s p=yd F s.1 s.2 p):∀ (A acc:List (qDU)),(∀ x∈A,Tri n x)→(∀ x∈acc,Tri n x)→acc.length+A.length≤10000000 →
  qa0 yy A ((acc.length:Int),cntC n acc.flatten)=some (.inl (((acc++A).length:Int),cntC n (acc++A).flatten))
 | [],acc,_,_,_=>by rw[qBR];rfl
 | p::A,acc,h,hacc,hm=>by
  rw[qBA] at hm
  obtain ⟨a,b,c,rfl,ha,hb,hc⟩:=h p (by simp)
  have hrec:=qtd hF hy A (acc++[[(a:Int),(b:Int),(c:Int)]]) (fun q hq=>h q (by grind)) (fun q hq=>by
   grind) (by grind)
  have hfl:∀ (L:List (qDU)),(∀ x∈L,Tri n x)→L.flatten.length=3*L.length:=by
   intro L
   induction L with
   | nil=>simp
   | cons x L ih =>
    intro hL
    obtain ⟨a',b',c',rfl,_⟩:=hL x (by simp)
    grind
  have:=hfl acc hacc
  show (yy _ _).bind _=_
  rw[hy,qxc hF ha hb hc (by omega) (by omega)]
  simp_all
variable {f:Bool}{N a back hw k lw many most node t w:Int}{R:List (Int×Int)}{p r:Nat}{α:Type}{S b hb lb s x xh xl:qDU}
theorem qzW {X:List (qDU)}{b:Int}{cs:qDU}:x∈t3 X a b cs↔∃ c,c∈cs∧c∈rowX X b∧a<b∧x=[a,b,c]:=by
 unfold t3
 grind
theorem qrd {X:List (qDU)}{a:Int}{x:qDU}:∀ {l:qDU},l.Pairwise (·<·)→(x∈t2 X a l↔∃ b c,b∈l∧c∈l∧b<c∧c∈rowX X b∧a<b∧x=[a,b,c])
 | [],_=>by simp[t2]
 | b::cs,h=>by
  obtain ⟨h1,h2⟩:=List.pairwise_cons.1 h
  unfold t2
  rw[qBg,qzW,qrd h2]
  grind
theorem qvC {X:List (qDU)}{x:qDU}:∀ {R:List (qDU)} {i:Nat},x∈t1 X i R↔∃ j l,R[j]?=some l∧x∈t2 X ((i+j:Nat):Int) l
 | [],i=>by simp[t1]
 | l::R,i=>by
  unfold t1
  rw[qBg,qvC (R:=R)]
  constructor
  ·rintro (h | ⟨j,l',h1,h2⟩)
   ·exact ⟨0,l,by simp,by omega⟩
   ·exact ⟨j+1,l',by grind,by grind⟩
  grind
theorem qw7 {X:List (qDU)}{a:Int}:∀ (l:qDU),(t2 X a l).length≤l.length*l.length
 | []=>by simp[t2]
 | b::cs=>by
  have:=qw7 (X:=X) (a:=a) cs
  grind [t3,t2,qBX,Nat.mul_add]
theorem qw6 {X:List (qDU)}:∀ (R:List (qDU)) (i:Nat),(∀ l∈R,l.length≤100)→(t1 X i R).length≤10000*R.length
 | [],_,_=>by simp[t1]
 | l::R,i,h=>by
  have h1:=qw6 (X:=X) R (i+1) fun l' hl=>h l' (by grind)
  have h2:=qw7 (X:=X) (a:=(i:Int)) l
  have h3:l.length*l.length≤100*100:=qC5 (h l (by simp)) (h l (by simp))
  grind [t1]
theorem qrg (hg:Gr g):Rws (nr g):=by
 have h1:=hg.1
 refine ⟨by rw[qiD];omega,fun l hl=>?_⟩
 obtain ⟨i,hi⟩:=List.getElem?_of_mem hl
 have hlt:i<g.length:=by grind [qiD]
 rw[qhC hlt] at hi
 cases hi
 refine ⟨((qfz hg).2 i _ (qhC hlt)).1,Nat.le_trans (quP _ _ _) h1,fun x hx=>?_⟩
 have:=qu3 (qjf hg) _ (((qfz hg).2 i _ (qhC hlt)).2 x |>.1 hx)
 grind [qiD]
def th (g:List (qDU)):List (qDU):=t1 (nr g) 0 (nr g)
theorem qzX (hg:Gr g):x∈th g↔∃ a b c:Nat,x=[(a:Int),(b:Int),(c:Int)]∧a<b∧b<c∧c<g.length∧Nb g a b=true∧Nb g a c=true∧Nb g b c=true:=by
 have hr:=qrg hg
 unfold th
 rw[qvC]
 have hrow:∀ (b:Nat) (z:Int),b<g.length→(z∈rowX (nr g) (b:Int)↔((b:Int),z)∈E g):=fun b z hb=>by
  unfold rowX
  rw[qBh,List.getD,qhC hb,Option.getD_some]
  exact ((qfz hg).2 b _ (qhC hb)).2 z
 constructor
 ·rintro ⟨a,l,h1,h2⟩
  rw[qB0] at h2
  have hal:a<g.length:=by grind [qiD]
  have hl:=hr.2 l (qBe h1)
  have hm:=((qfz hg).2 a _ h1).2
  obtain ⟨b,c,c1,c2,c3,c4,c5,rfl⟩:=(qrd hl.1).1 h2
  have hb:=hl.2.2 b c1
  have hc:=hl.2.2 c c2
  rw[qiD] at hb hc
  obtain ⟨bn,rfl⟩:=qBf hb.1
  obtain ⟨cn,rfl⟩:=qBf hc.1
  refine ⟨a,bn,cn,rfl,by omega,by omega,by omega,decide_eq_true ((hm _).1 c1),decide_eq_true ((hm _).1 c2),decide_eq_true ((hrow bn _ (by omega)).1 c4)⟩
 ·rintro ⟨a,b,c,rfl,h1,h2,h3,n1,n2,n3⟩
  have hal:a<g.length:=by omega
  have hm:=((qfz hg).2 a _ (qhC hal)).2
  refine ⟨a,_,qhC hal,?_⟩
  rw[qB0]
  exact (qrd ((qfz hg).2 a _ (qhC hal)).1).2 ⟨(b:Int),(c:Int),(hm _).2 (of_decide_eq_true n1),(hm _).2 (of_decide_eq_true n2),by omega,(hrow b _ (by omega)).2 (of_decide_eq_true n3),by omega,rfl⟩
theorem qAp (hg:Gr g):∀ x∈th g,Tri g.length x:=fun x hx=>by
 obtain ⟨a,b,c,rfl,h1,h2,h3,_⟩:=(qzX hg).1 hx
 exact ⟨a,b,c,rfl,by omega,by omega,h3⟩
theorem qw9 (hg:Gr g):(th g).length≤1000000:=by
 have h1:=hg.1
 have:=qw6 (X:=nr g) (nr g) 0 fun l hl=>((qrg hg).2 l hl).2.1
 grind [th,qiD]
theorem qus (hF:200000≤F)(hg:Gr g):qdR F g=some (cntC g.length (th g).flatten,((th g).length:Int),0):=by
 have h1:=hg.1
 unfold qdR
 rw[jL (by omega),jA.2 hg]
 simp only[qBb]
 rw[if_neg (by simp),qzZ (by omega)]
 simp only[qBb]
 rw[qx2 (by omega) hg]
 simp only[qBb]
 unfold qfY qep
 simp only[qBb]
 have ho:=qxb (F:=F) (yy:=fun (x:Int×qDU) x_1=>yd F x.1 x.2 x_1) hF (qrg hg) F 0 (0,qBd g.length 0) (by rw[qiD];omega) (by omega)
 rw[qBL] at ho
 have hf:=qtd (F:=F) (n:=g.length) (yy:=fun x x_1=>yd F x.1 x.2 x_1) (by omega) (fun _ _=>rfl) (th g) [] (qAp hg) (by simp) (by grind [qw9])
 have e0:cntC g.length ([]:List (qDU)).flatten=qBd g.length 0:=by
  apply qB8 (by simp[cntC])
  grind [cntC]
 rw[e0,qBy] at hf
 have hf':qa0 (fun (x:Int×qDU) x_1=>yd F x.1 x.2 x_1) (t1 (nr g) 0 (nr g)) (0,qBd g.length 0)=_:=hf
 simp_all
def okB:Bool→qDU→Bool
 | _,[]=>true
 | f,n::bs=>decide (0≤n) && (f || decide (1≤n)) && okB false bs
def bsum:qDU→Int
 | []=>0
 | n::bs=>n+bsum bs
theorem qhD (f:Bool)(n:Int)(bs:qDU):okB f (n::bs)=(decide (0≤n) && (f || decide (1≤n)) && okB false bs):=rfl
theorem qoc:∀ {f:Bool} {bs:qDU},okB f bs=true→(∀ n∈bs,0≤n)∧0≤bsum bs
 | _,[],_=>by simp[bsum]
 | f,n::bs,h=>by
  unfold okB at h
  simp only[qBY,decide_eq_true_eq] at h
  obtain ⟨h1,h2⟩:=qoc h.2
  refine ⟨fun m hm=>?_,?_⟩
  ·grind
  grind [bsum]
def ccE (L:Int)(f:Bool)(t:Int)(bs:qDU):Int:=if okB f bs then (if L<t+bsum bs then 8 else 0) else 3
theorem qxx (L:Int)(f:Bool)(t:Int):ccE L f t []=if L<t then 8 else 0:=by simp[ccE,okB,bsum]
theorem qr6 {L:Int}{n:Int}{bs:qDU}(h:n<0∨(n<1∧f=false)):ccE L f t (n::bs)=3:=by
 unfold ccE okB
 grind
theorem qzG {L:Int}{n:Int}{bs:qDU}(h:¬ (n<0∨(n<1∧f=false))):ccE L f t (n::bs)=ccE L false (t+n) bs:=by
 have e:okB f (n::bs)=okB false bs:=by
  rw[qhD]
  grind
 grind [ccE,bsum]
theorem qxw {L:Int}{t':Int}{bs:qDU}(h:L<t)(h':L<t'):ccE L f t bs=ccE L f t' bs:=by
 unfold ccE
 by_cases ho:okB f bs=true
 ·have:=(qoc ho).2
  grind
 simp_all
theorem qpJ {F:Nat}{bs:qDU}{L:Nat}(hL:L≤300)(hb:bs.length≤301):∀ (k i:Nat) (s:Int),bs.length<k+i→i≤bs.length→0≤s∧s≤L+1 →
  qbi F bs (L:Int) k (s,(i:Int))=some (ccE L (decide (i=0)) s (bs.drop i))
 | 0,_,_,_,_,_=>by omega
 | k+1,i,s,h,hi,hs=>by
  show qc3 F bs (L:Int) (qbi F bs (L:Int) k) s (i:Int)=_
  unfold qc3
  by_cases hlt:i<bs.length
  ·rw[if_pos (by simp_all),qo,qBc hlt,qBj hlt]
   simp only[qBb]
   have hrec:=fun s hs=>qpJ (F:=F) hL hb k (i+1) s (by omega) (by omega) hs
   rw[decide_eq_false (show ¬ i+1=0 by omega)] at hrec
   generalize bs[i]=n at hrec ⊢
   generalize bs.drop (i+1)=R at hrec ⊢
   unfold qbh
   by_cases h1:n<0
   ·rw[if_pos (by grind),if_pos rfl,qr6 (.inl h1)]
   ·rw[if_neg (by grind)]
    by_cases h2:n<1∧0<i
    ·grind [qr6]
    ·have h3:¬ (n<0∨(n<1∧decide (i=0)=false)):=by
      simp_all
     rw[if_neg (by simp_all),qzG h3]
     unfold lett
     have em:imin n (iadd .i64 (L:Int) 1)=if n≤L then n else (L:Int)+1:=by
      grind [zj,imin]
     grind [zj,imin,qxw]
  grind [qxx,qc4]
def bkE (L:Nat)(bs:qDU):Int:=if L+1<bs.length then 2 else ccE L true 0 bs
theorem qtP (hF:200000≤F){bs:qDU}{L:Nat}(hL:L≤300):qdY F bs (L:Int)=some (bkE L bs):=by
 grind [qdY,bkE,qs,qpJ]
theorem qzC {L:Nat}{bs:qDU}:bkE L bs=0↔bs.length≤L+1∧okB true bs=true∧bsum bs≤L:=by
 grind [bkE,ccE]
def cp:qDU→qDU→Bool→qDU
 | l,[],c=>if c then l else []
 | l,n::bs,c=>(if c then l.take n.toNat else [])++cp (l.drop n.toNat) bs (!c)
theorem qpk {F:Nat}{bs:qDU}(hbm:bs.length≤1000):∀ (k i:Nat) (l o:qDU) (c:Bool),bs.length<k+i→i≤bs.length→l.length≤300→o.length≤300*i→(∀ n∈bs.drop i,0≤n)→bsum (bs.drop i)≤l.length →
  qaB F bs k (l,o,c,(i:Int))=some (o++cp l (bs.drop i) c)
 | 0,_,_,_,_,_,_,_,_,_,_=>by omega
 | k+1,i,l,o,c,h,hi,hl,ho,hn,hs=>by
  show qcw F bs (qaB F bs k) l o c (i:Int)=_
  unfold qcw
  by_cases hlt:i<bs.length
  ·rw[qBj hlt] at hn hs ⊢
   have hrec:=fun l o c h1 h2 h3=>qpk (F:=F) hbm k (i+1) l o c (by omega) (by omega) h1 h2 (fun n hn'=>hn n (qBt _ hn')) h3
   have hg:idx bs (i:Int)=some bs[i]:=by grind [qo]
   rw[if_pos (by simp_all),hg]
   have h0:=hn bs[i] (qBp ..)
   have hsum:0≤bsum (bs.drop (i+1)):=by
    have:∀ (R:qDU),(∀ n∈R,0≤n)→0≤bsum R:=by
     intro R
     induction R with
     | nil=>intro _;simp[bsum]
     | cons x R ih=>intro h;unfold bsum;have:=h x (by simp);grind
    grind
   unfold bsum at hs
   generalize bs[i]=n at hrec h0 hs ⊢
   obtain ⟨m,rfl⟩:=qBf h0
   have hml:m≤l.length:=by omega
   have s1:=qkp (l:=l) (i:=0) (j:=m) (by omega) hml
   have s2:=qkp (l:=l) (i:=m) (j:=l.length) hml (qBo _)
   rw[qCk] at s2
   rw[show ((0:Nat):Int)=0 from rfl,qBL] at s1
   simp only[qBb]
   unfold qaA cp
   simp only[qBh]
   cases c
   ·grind [qs]
   ·rw[if_pos rfl,if_pos rfl,s1]
    grind [zU,qs]
  ·rw[if_neg (by simp_all),qBm (by omega)]
   unfold qc5 qbj cp
   cases c
   ·simp
   ·rw[if_pos rfl,zU (by omega)];simp
def cpE (l bs:qDU):Int:=if gkc l≠0 then gkc l else bkE l.length bs
def cpy (l bs:qDU):qDU×Int:=if cpE l bs≠0 then ([],cpE l bs) else (cp l bs true,0)
theorem quQ {l bs:qDU}:cpE l bs=0↔(l.length≤300∧Ris (-1) l)∧bs.length≤l.length+1∧okB true bs=true∧bsum bs≤l.length:=by
 grind [cpE,vw,qzC]
theorem quS {l bs:qDU}(h:cpE l bs=0):cpy l bs=(cp l bs true,0):=by grind [cpy]
theorem qxD {l bs:qDU}(h:cpE l bs≠0):cpy l bs=([],cpE l bs):=by grind [cpy]
theorem qxM {l:qDU}(h:gkc l=0):l.length≤300:=(vw.1 h).1
theorem qxB (hF:200000≤F){l bs:qDU}:qeQ F l bs=some (cpy l bs):=by
 unfold qeQ
 rw[qgu (by omega)]
 simp only[qBb]
 have hj:qaR F l bs (cpE l bs)=some (cpy l bs):=by
  unfold qaR
  by_cases h:cpE l bs=0
  ·obtain ⟨⟨h1,h2⟩,h3,h4,h5⟩:=quQ.1 h
   have:=qpk (F:=F) (bs:=bs) (by omega) F 0 l [] true (by omega) (by omega) h1 (by simp) (by rw[qBL];exact (qoc h4).1) (by simp_all)
   rw[qBL,qBy,show ((0:Nat):Int)=0 from rfl] at this
   grind [quS,qfs]
  grind [qxD]
 grind [cpE,qtP,qxM]
theorem qs0:∀ {e:Int} {R:List (Int×Int)},Sep e R→∀ r∈R,e<r.1
 | _,[],_=>by simp
 | e,r::R,h=>by
  intro r' hr
  rcases qBi.1 hr with rfl | hr
  ·exact h.1
  ·have:=qs0 h.2.2 r' hr;have:=h.1;have:=h.2.1;omega
def Mx (l:qDU)(r:Int×Int):Prop:=1≤r.2∧r.1-1∉l∧r.1+r.2∉l∧∀ z,r.1≤z→z<r.1+r.2→z∈l
theorem qwt:∀ {e:Int} {R:List (Int×Int)},Sep e R→∀ r∈R,Mx (flat R) r
 | _,[],_=>by simp
 | e,r::R,h=>by
  intro r' hr
  have h1:=h.2.1
  have hlt:=qrm h.2.2
  rcases qBi.1 hr with rfl | hr
  ·refine ⟨h1,fun hm=>?_,fun hm=>?_,fun z h2 h3=>?_⟩
   ·rw[yg] at hm
    rcases qBg.1 hm with hm | hm
    ·have:=qd8.1 hm;omega
    ·have:=hlt _ hm;omega
   ·rw[yg] at hm
    rcases qBg.1 hm with hm | hm
    ·have:=qd8.1 hm;omega
    ·have:=hlt _ hm;omega
   ·rw[yg]
    exact qBg.2 (.inl (qd8.2 (by omega)))
  ·obtain ⟨i1,i2,i3,i4⟩:=qwt h.2.2 r' hr
   have hf:=qs0 h.2.2 r' hr
   refine ⟨i1,fun hm=>?_,fun hm=>?_,fun z h2 h3=>?_⟩
   ·rw[yg] at hm
    rcases qBg.1 hm with hm | hm
    ·have:=qd8.1 hm;omega
    ·exact i2 hm
   ·rw[yg] at hm
    rcases qBg.1 hm with hm | hm
    ·have:=qd8.1 hm;omega
    ·exact i3 hm
   ·rw[yg]
    exact qBg.2 (.inr (i4 z h2 h3))
theorem qng {x b:Int}:qb9 F x a b=some (decide (a≤x∧x≤b)):=by
 unfold qb9
 simp
def RunOk (r:Int×Int):Prop:=(0≤r.1∧r.1≤1048576)∧(1≤r.2∧r.2≤300)∧r.1+r.2-1≤1048576
instance runOkDec (r:Int×Int):Decidable (RunOk r):=inferInstanceAs (Decidable (_∧_∧_))
def sk:Int→List (Int×Int)→Int
 | _,[]=>0
 | e,r::R=>if RunOk r then (if r.1<e+2 then 4 else sk (r.1+r.2-1) R) else 3
theorem qwz:∀ {e:Int} {R:List (Int×Int)},sk e R=0↔(∀ r∈R,RunOk r)∧Sep (e+1) R
 | _,[]=>by simp[sk,Sep]
 | e,r::R=>by
  unfold sk Sep
  by_cases h:RunOk r
  ·rw[if_pos h]
   by_cases h2:r.1<e+2
   ·omega
   ·rw[if_neg h2,qwz]
    rw[show r.1+r.2-1+1=r.1+r.2 from by omega]
    have h3:1≤r.2:=h.2.1.1
    grind
  simp_all
theorem qjR:∀ {R:List (Int×Int)},(∀ r∈R,RunOk r)→(flat R).length≤300*R.length
 | [],_=>by simp[flat]
 | r::R,h=>by
  have h1:=qjR (R:=R) fun r hr=>h r (by grind)
  have h2:=h r (by simp)
  grind [RunOk,yg,qeW]
theorem qm7 {F:Nat}{rec32:(qDU×Int)→Option (qDU×Int)}{i:Int}{r:Int×Int}{acc:qDU}(hr:RunOk r)(ha:acc.length≤1000000):∀ (k j:Nat),r.2.toNat<k+j→j≤r.2.toNat →
  qc9 F rec32 i r k (acc++rng r.1 j,(j:Int))=qbp F rec32 i (acc++rng r.1 r.2.toNat)
 | 0,_,_,_=>by omega
 | k+1,j,h,hj=>by
  unfold RunOk at hr
  show qc7 F rec32 i r (qc9 F rec32 i r k) (acc++rng r.1 j) (j:Int)=_
  unfold qc7
  by_cases hlt:j<r.2.toNat
  ·rw[if_pos (by simp_all),zj (by omega) (by omega),zU (by simp[qeW];omega),qs (by omega)]
   simp only[qBb]
   rw[qBn,← qlB]
   exact qm7 hr ha k (j+1) (by omega) (by omega)
  grind
theorem qtE {i:Nat}(h:i<R.length):flat (R.take (i+1))=flat (R.take i)++rng R[i].1 R[i].2.toNat:=by
 grind [List.take_add_one,flat]
theorem qlR {F:Nat}(hF:1000<F){R:List (Int×Int)}(hR:∀ r∈R,RunOk r)(hl:R.length≤300):∀ (k i:Nat),R.length<k+i→i≤R.length →
  ju F R k (flat (R.take i),(i:Int))=some (flat R,0)
 | 0,_,_,_=>by omega
 | k+1,i,h,hi=>by
  show qc6 F R (ju F R k) (flat (R.take i)) (i:Int)=_
  unfold qc6
  by_cases hlt:i<R.length
  ·have hok:=hR _ (qBu hlt)
   have hsz:=qjR (R:=R.take i) fun r hr=>hR r (List.mem_of_mem_take hr)
   rw[List.length_take] at hsz
   have hsp:=qm7 (F:=F) (rec32:=ju F R k) (i:=(i:Int)) (acc:=flat (R.take i)) hok (by omega) F 0 (by grind [RunOk]) (by omega)
   rw[rng,qBR,show ((0:Nat):Int)=0 from rfl] at hsp
   rw[if_pos (by simp_all),qo,qBc hlt]
   simp only[qBb]
   rw[hsp,← qtE hlt]
   unfold qbp
   rw[qs (by omega)]
   exact qlR hF hR hl k (i+1) (by omega) (by omega)
  ·rw[if_neg (by simp_all)]
   obtain rfl:i=R.length:=by omega
   rw[qCk];rfl
theorem qll {b:Int}(h1:-1000000000≤a∧a≤1000000000)(h2:-1000000000≤b∧b≤1000000000):isub .i64 (iadd .i64 a b) 1=a+b-1:=by
 grind [zj,zV]
theorem qlQ {F:Nat}{R:List (Int×Int)}(hl:R.length≤300):∀ (k i:Nat) (e:Int),R.length<k+i→i≤R.length→-2≤e∧e≤1048576 →
  qbq F R k (e,(i:Int))=if sk e (R.drop i)≠0 then some ([],sk e (R.drop i)) else qbo F R
 | 0,_,_,_,_,_=>by omega
 | k+1,i,e,h,hi,he=>by
  show qc8 F R (qbq F R k) e (i:Int)=_
  unfold qc8
  by_cases hlt:i<R.length
  ·rw[if_pos (by simp_all),qo,qBc hlt,qBj hlt,sk]
   generalize R[i]=r
   simp only[qBb]
   rw[qng,qng]
   simp only[qBb]
   by_cases h1:0≤r.1∧r.1≤1048576
   ·rw[decide_eq_true h1,if_neg (by simp)]
    by_cases h2:1≤r.2∧r.2≤300
    ·rw[decide_eq_true h2,if_neg (by simp),qll (by omega) (by omega)]
     unfold jt
     by_cases h3:r.1+r.2-1≤1048576
     ·have hok:RunOk r:=⟨h1,h2,h3⟩
      rw[if_neg (by simp_all),if_pos hok,zj (by omega) (by omega)]
      by_cases h4:r.1<e+2
      ·simp_all
      ·rw[if_neg (by grind),if_neg h4,qll (by omega) (by omega),qs (by omega)]
       exact qlQ hl k (i+1) _ (by omega) (by omega) (by omega)
     grind [RunOk]
    ·have hok:¬ RunOk r:=fun h=>h2 h.2.1
     rw[decide_eq_false h2,if_pos (by simp),if_neg hok,if_pos (by decide)]
     rfl
   ·have hok:¬ RunOk r:=fun h=>h1 h.1
    rw[decide_eq_false h1,if_pos (by simp),if_neg hok,if_pos (by decide)]
    rfl
  grind [sk]
def skc (R:List (Int×Int)):Int:=if 300<R.length then 2 else sk (-2) R
def spd (R:List (Int×Int)):qDU×Int:=if skc R≠0 then ([],skc R) else (flat R,0)
theorem qro:skc R=0↔R.length≤300∧(∀ r∈R,RunOk r)∧Sep (-1) R:=by
 grind [skc,qwz]
theorem qt4 (hF:20000≤F):qd0 F R=some (spd R):=by
 unfold qd0 spd
 by_cases h:300<R.length
 ·grind [skc]
 ·have e:skc R=sk (-2) R:=by grind [skc]
  have hc:=qlQ (F:=F) (R:=R) (by omega) F 0 (-2) (by omega) (by omega) (by omega)
  rw[qBL] at hc
  rw[if_neg (by grind),e]
  refine hc.trans ?_
  by_cases h2:sk (-2) R=0
  ·rw[if_neg (by omega),if_neg (by omega)]
   unfold qbo
   have hok:=qro.1 (e.trans h2)
   exact qlR (by omega) hok.2.1 hok.1 F 0 (by omega) (by omega)
  simp_all
def rm (R:List (Int×Int))(rest:qDU):qDU×Int:=if skc R≠0 then ([],skc R) else if gkc rest≠0 then ([],gkc rest) else mrg (flat R) rest
theorem qA6 (h:skc R≠0):rm R rest=([],skc R):=by grind [rm]
theorem qA7 (h:skc R=0)(h2:gkc rest≠0):rm R rest=([],gkc rest):=by grind [rm]
theorem qAW (h:skc R=0)(h2:gkc rest=0):rm R rest=mrg (flat R) rest:=by grind [rm]
theorem qAg (h:skc R=0):spd R=(flat R,0):=by grind [spd]
theorem qyl (h:skc R≠0):spd R=([],skc R):=by grind [spd]
theorem qvD (hF:20000≤F):qeR F R rest=some (rm R rest):=by
 unfold qeR
 rw[qt4 hF,qgu hF]
 simp only[qBb]
 by_cases h:skc R=0
 ·rw[qAg h,if_pos (by simp)]
  unfold qaS
  grind [qAW,qro,vw,qjR,qtK,qwu,qb4,qA7]
 grind [qyl,qA6,qaS]
theorem qtT {w:qDU}(h1:skc R=0)(h2:gkc rest=0)(h3:cmn (flat R) rest=false)(h4:(flat R++rest).Perm w)(h5:w.Pairwise (·≤·))(h6:w.length≤300):rm R rest=(w,0):=by
 have hl:=h4.length_eq
 grind [qAW,mrg,qoo]
theorem qxZ {l r:qDU}:(mrg l r).1.length≤300:=by
 grind [mrg,qhV]
theorem qz9:(rm R rest).1.length≤300:=by
 grind [rm,qxZ]
theorem qtQ {A B:List (Int×Int)}(h:A.Perm B):(flat A).Perm (flat B):=h.flatMap_right _
theorem qiE (least:Int):∀ (R:List (Int×Int)),(spO least R++spS least R).Perm R
 | []=>qBF _
 | r::R=>by
  by_cases h:least≤r.2
  ·rw[qzj h,qzk h];exact (qiE least R).cons r
  ·rw[qzi h,qzl h];exact qCe.trans ((qiE least R).cons r)
theorem qp6 (least:Int)(l:qDU):(flat (spO least (rs l))++flat (spS least (rs l))).Perm l:=by
 grind [qpu,qtQ,qiE,qeX]
theorem qym {q:Int}{least:Int}{l:qDU}(hl:l.length≤300)(h:Ris q l):(spO least (rs l)).length≤300∧(flat (spS least (rs l))).length≤300:=by
 have h1:=qjP (qlF (qb4 h).1 (qb4 h).2)
 rw[qeX] at h1
 have h2:=(qp6 least l).length_eq
 grind [spO]
theorem qwo {l:qDU}(hl:l.length≤300)(h:Ris (-1) l):Sep (-1) (rs l)∧∀ r∈rs l,RunOk r:=by
 have hs:=qlF (qb4 h).1 (qb4 h).2
 refine ⟨hs,fun r hr=>?_⟩
 have hm:=qwt hs r hr
 have h2:=qjQ hr
 rw[qeX] at hm h2
 have h1:=hm.1
 have a1:=qj3 h _ (hm.2.2.2 r.1 (by omega) (by omega))
 have a2:=qj3 h _ (hm.2.2.2 (r.1+r.2-1) (by omega) (by omega))
 unfold Nd at a1 a2
 exact ⟨by omega,by omega,by omega⟩
theorem qyr {l:qDU}(hl:l.length≤300)(h:Ris (-1) l)(p:Int×Int→Bool):skc ((rs l).filter p)=0:=by
 grind [qwo,qjP,qeX,qro,qg2]
theorem qoq {l:qDU}(h:Ris (-1) l)(p:Int×Int→Bool):Ris (-1) (flat ((rs l).filter p)):=by
 grind [qb4,flat,qeX,qoi,qj3]
theorem quR (f:Int→Bool):∀ (l pre:qDU) (c:Bool),cp (pre++l) (tb c pre.length (l.map f)) c=(if c then pre else [])++l.filter f
 | [],pre,c=>by
  show cp (pre++[]) [] c=_
  unfold cp
  simp
 | x::l,pre,c=>by
  rw[List.map_cons,qCW]
  by_cases h:f x=c
  ·have ih:=quR f l (pre++[x]) c
   grind [qjz]
  ·have ih:=quR f l [x] (f x)
   rw[qjA h]
   unfold cp
   have hc:(!c)=f x:=by grind
   rw[hc,show ((1:Int))=(([x]:qDU).length:Int) from rfl,qBh,List.take_left,List.drop_left]
   grind
theorem qzH (l m:qDU):cp l (tbs l m) true=l.filter (hasB m):=by
 have:=quR (hasB m) l [] true
 simpa[tbs] using this
theorem qls:∀ (bs:List Bool) (f c:Bool) (m:Int),0≤m→(f=true∨1≤m)→okB f (tb c m bs)=true
 | [],_,_,_,_,_=>rfl
 | b::bs,f,c,m,h,hf=>by
  by_cases hb:b=c
  ·subst hb
   rw[qjz]
   exact qls bs f b (m+1) (by omega) (.inr (by omega))
  ·rw[qjA hb,qhD,qls bs false b 1 (by omega) (.inr (by omega))]
   simp_all
theorem qi7:∀ (bs:List Bool) (c:Bool) (m:Int),0≤m→bsum (tb c m bs)≤m+bs.length
 | [],_,_,h=>by show (0:Int)≤_;omega
 | b::bs,c,m,h=>by
  by_cases hb:b=c
  ·subst hb
   rw[qjz]
   have:=qi7 bs b (m+1) (by omega)
   grind
  ·rw[qjA hb]
   have:=qi7 bs b 1 (by omega)
   grind [bsum]
theorem qoE (l m:qDU):(tbs l m).length≤l.length:=by
 have:=qrJ true 0 (l.map (hasB m))
 rwa [qBD] at this
theorem qxC {l m:qDU}(h:gkc l=0):cpE l (tbs l m)=0:=by
 refine quQ.2 ⟨vw.1 h,?_,qls _ _ _ _ (by omega) (.inl rfl),?_⟩
 ·grind [qoE]
 ·have:=qi7 (l.map (hasB m)) true 0 (by omega)
  grind [tbs]
theorem qxE {l m:qDU}(h:gkc l=0):cpy l (tbs l m)=(l.filter (hasB m),0):=by
 rw[quS (qxC h),qzH]
theorem qyq {l m:qDU}(h:gkc l=0)(hs:m.Sublist l):gkc m=0:=by
 grind [vw,qoi,qb4,qj3]
theorem qle {l:qDU}(h:gkc l=0):l.Pairwise (·<·):=(qb4 (vw.1 h).2).1
theorem qpA {l:qDU}{x:Int}:hasB l x=true↔x∈l:=by unfold hasB;simp
theorem qvS {a:qDU}(ha:gkc a=0)(hb:gkc b=0):a.filter (hasB b)=b.filter (hasB a):=by
 refine qv6 ((qle ha).sublist (qCY ..)) ((qle hb).sublist (qCY ..)) fun z=>?_
 rw[qB7,qB7,qpA,qpA]
 grind
theorem qtD (p:Int→Bool)(l:qDU):(l.filter p++l.filter fun x=>!p x).Perm l:=by
 induction l with
 | nil=>exact qBF _
 | cons x l ih =>
  rw[qCW,qCW]
  cases p x
  ·simp only[qBq,if_false,qDn,if_true]
   exact qCe.trans (ih.cons x)
  ·simp only[if_true,qB5,qBq,if_false]
   exact ih.cons x
structure Rep (l:qDU) (f:Bool) (S:qDU):Prop where
 bit:Bit l
 len:l.length≤8192
 ok:f=false→l=S
 full:f=true→8192<S.length
def Wr (m:Option (Int×qDU×Bool))(S:qDU):Prop:=∃ l f,m=some ((l.length:Int),pk l,f)∧Rep l f S
theorem qyc:Rep [] false []:=⟨by intro x hx;grind,by simp,fun _=>rfl,by simp⟩
theorem qwf {l:qDU}(h:Rep l f S){k:qDU}(hk:8192<(S++k).length):Rep l true (S++k):=⟨h.bit,h.len,by simp,fun _=>hk⟩
theorem qoO (hF:20000≤F){l k:qDU}(h:Rep l f S)(hk:Bit k)(hkm:k.length≤8192):Wr (vk F (l.length:Int) (pk l) f (k.length:Int) (pk k)) (S++k):=by
 have hl:=h.len
 unfold vk
 cases f with
 | true =>
  have:=h.full rfl
  refine ⟨l,true,by rfl,h.bit,h.len,by simp,fun _=>by grind⟩
 | false =>
  obtain rfl:=h.ok rfl
  rw[if_neg (by simp),qb3 (by omega)]
  unfold jy
  by_cases hb:8192<l.length+k.length
  ·rw[if_neg (by grind)]
   refine ⟨l,true,by grind,h.bit,h.len,by simp,fun _=>by simp_all⟩
  ·rw[if_pos (by grind),qr1 hF h.bit hk h.len hkm]
   refine ⟨l++k,false,by grind,vl h.bit hk,by simp_all,fun _=>rfl,by simp⟩
theorem qdO (hF:20000≤F){l:qDU}(h:Rep l f S){n:Int}(h0:0≤n)(hn:n≤1099511627776):Wr (zi F (l.length:Int) (pk l) f n) (S++ga n.toNat):=by
 obtain ⟨m,rfl⟩:=qBf h0
 unfold zi
 rw[vz (by omega),qkk hF (by omega)]
 simp only[qBb,qBh]
 obtain ⟨l',f',e,h'⟩:=qoO hF h (qiB m) (by grind [qy6])
 rw[e]
 exact ⟨l',f',rfl,h'⟩
theorem ql1 {m:Option (Int×qDU×Bool)}{T:qDU}(h:Wr m S)(e:S=T):Wr m T:=e▸h
def encBs:Bool→qDU→qDU
 | _,[]=>[]
 | b,n::bs=>ga (n-if b then 1 else 0).toNat++encBs true bs
def encB (bs:qDU):qDU:=ga bs.length++encBs false bs
theorem qvp (i:Nat):imin (i:Int) 1=if 0<i then 1 else 0:=by
 grind [imin]
theorem qnf {F:Nat}(hF:20000≤F){bs:qDU}(hm:bs.length≤1000):∀ (k i:Nat) (l:qDU) (f:Bool) (S:qDU),bs.length<k+i→i≤bs.length→Rep l f S→okB (!decide (0<i)) (bs.drop i)=true→(∀ n∈bs,n≤1000000) →
  Wr (qae F bs k ((i:Int),(l.length:Int),pk l,f)) (S++encBs (decide (0<i)) (bs.drop i))
 | 0,_,_,_,_,_,_,_,_,_=>by omega
 | k+1,i,l,f,S,h,hi,hr,hok,hb=>by
  show Wr (qad F bs (qae F bs k) (i:Int) (l.length:Int) (pk l) f) _
  unfold qad
  by_cases hlt:i<bs.length
  ·rw[qBj hlt,qhD] at hok
   simp only[qBY,qCE,decide_eq_true_eq,qCG,decide_eq_false_iff_not] at hok
   have hn:=hb bs[i] (qBu hlt)
   rw[if_pos (by simp_all),qo,qBc hlt,qBj hlt,qvp]
   simp only[qBb]
   have e1:isub .i64 bs[i] (if 0<i then 1 else 0)=bs[i]-(if decide (0<i)=true then 1 else 0):=by
    grind [zV]
   rw[e1]
   obtain ⟨l',f',e,h'⟩:=qdO hF hr (n:=bs[i]-(if decide (0<i)=true then 1 else 0)) (by grind) (by omega)
   rw[e]
   simp only[qBb]
   rw[qs (by omega)]
   refine ql1 (qnf hF hm k (i+1) l' f' _ (by omega) (by omega) h' (by simp_all) hb) ?_
   grind [encBs]
  ·rw[if_neg (by simp_all),qBm (by omega)]
   exact ⟨l,f,rfl,by simpa[encBs] using hr⟩
theorem qrN (hF:20000≤F){bs l:qDU}(hm:bs.length≤1000)(hr:Rep l f S)(hok:okB true bs=true)(hb:∀ n∈bs,n≤1000000):Wr (jz F (l.length:Int) (pk l) f bs) (S++encB bs):=by
 unfold jz
 obtain ⟨l',f',e,h'⟩:=qdO hF hr (n:=(bs.length:Int)) (by omega) (by omega)
 rw[e]
 simp only[qBb]
 refine ql1 (qnf hF hm F 0 l' f' _ (by omega) (by omega) h' (by simp_all) hb) ?_
 simp[encB]
def encRs (least:Int):Bool→Int→List (Int×Int)→qDU
 | _,_,[]=>[]
 | b,a,r::R=>ga (if b then r.1-a-2 else foldOf (r.1-a)).toNat++(ga (r.2-least).toNat++encRs least true (r.1+r.2-1) R)
def encR (least node:Int)(R:List (Int×Int)):qDU:=ga R.length++encRs least false node R
theorem qld {x:Int}(h:-2000000≤x∧x≤2000000):0≤foldOf x∧foldOf x≤4000001:=by grind [foldOf]
theorem qtj {F:Nat}(hF:20000≤F){R:List (Int×Int)}{least:Int}(hm:R.length≤300)(hR:∀ r∈R,RunOk r∧least≤r.2)(hle:0≤least):∀ (k i:Nat) (a:Int) (l:qDU) (f:Bool) (S:qDU),R.length<k+i→i≤R.length→Rep l f S→Nd a→(∃ q,Sep q (R.drop i)∧(0<i→a+1≤q)) →
  Wr (yS F least R k (a,(i:Int),(l.length:Int),pk l,f)) (S++encRs least (decide (0<i)) a (R.drop i))
 | 0,_,_,_,_,_,_,_,_,_,_=>by omega
 | k+1,i,a,l,f,S,h,hi,hr,ha,hs=>by
  show Wr (qa8 F least R (yS F least R k) a (i:Int) (l.length:Int) (pk l) f) _
  unfold qa8
  by_cases hlt:i<R.length
  ·obtain ⟨hro,hrl⟩:=hR R[i] (qBu hlt)
   unfold RunOk at hro
   unfold Nd at ha
   rw[if_pos (by simp_all),qo,qBc hlt,qBj hlt]
   simp only[qBb]
   have hj:∀ {l':qDU} {f':Bool} {S':qDU},Rep l' f' S'→S'=S++ga (if decide (0<i)=true then R[i].1-a-2 else foldOf (R[i].1-a)).toNat→Sep (R[i].1+R[i].2) (R.drop (i+1)) →
     Wr (yR F (yS F least R k) least (i:Int) R[i] (l'.length:Int) (pk l') f') (S++encRs least (decide (0<i)) a (R[i]::R.drop (i+1))):=by
    intro l' f' S' hr' hS hsep
    unfold yR
    rw[zV (by omega) (by omega)]
    obtain ⟨l2,f2,e,h2⟩:=qdO hF hr' (n:=R[i].2-least) (by omega) (by omega)
    rw[e]
    simp only[qBb]
    rw[qll (by omega) (by omega),qs (by omega)]
    refine ql1 (qtj hF hm hR hle k (i+1) (R[i].1+R[i].2-1) l2 f2 _ (by omega) (by omega) h2 (by unfold Nd;omega) ⟨_,hsep,fun _=>by omega⟩) ?_
    grind [encRs]
   obtain ⟨q,hsp,hq⟩:=hs
   rw[qBj hlt] at hsp
   obtain ⟨h1,h2,h3⟩:=hsp
   by_cases h0:0<i
   ·have hq':=hq h0
    have e3:isub .i64 R[i].1 a=R[i].1-a:=zV (by omega) (by omega)
    rw[if_neg (by grind),e3,zV (by omega) (by omega)]
    obtain ⟨l',f',e,h'⟩:=qdO hF hr (n:=R[i].1-a-2) (by omega) (by omega)
    grind
   ·obtain rfl:i=0:=by omega
    have hf:=qld (x:=R[0].1-a) (by omega)
    rw[if_pos (by simp),zV (by omega) (by omega),qsi F (by omega) (by omega)]
    simp only[qBb]
    rw[show iconv .i64 (foldOf (R[0].1-a))=foldOf (R[0].1-a) from yk (by omega) (by omega)]
    obtain ⟨l',f',e,h'⟩:=qdO hF hr (n:=foldOf (R[0].1-a)) (by omega) (by omega)
    grind
  ·rw[if_neg (by simp_all),qBm (by omega)]
   exact ⟨l,f,rfl,by simpa[encRs] using hr⟩
theorem qxg (hF:20000≤F){least q:Int}{l:qDU}(hm:R.length≤300)(hR:∀ r∈R,RunOk r∧least≤r.2)(hle:0≤least)(hr:Rep l f S)(hn:Nd node)(hs:Sep q R) :
  Wr (qaJ F (l.length:Int) (pk l) f node least R) (S++encR least node R):=by
 unfold qaJ
 obtain ⟨l',f',e,h'⟩:=qdO hF hr (n:=(R.length:Int)) (by omega) (by omega)
 rw[e]
 simp only[qBb]
 refine ql1 (qtj hF hm hR hle F 0 node l' f' _ (by omega) (by omega) h' hn ⟨q,by grind,by omega⟩) ?_
 simp[encR]
theorem qn6:∀ {bs:qDU} {f:Bool},okB f bs=true→∀ n∈bs,n≤bsum bs
 | [],_,_,n,h=>by grind
 | x::bs,f,h,n,hn=>by
  rw[qhD] at h
  simp only[qBY] at h
  have h0:=qoc h.2
  have hx:0≤x:=by simp_all
  have hb:bsum (x::bs)=x+bsum bs:=rfl
  rcases qBi.1 hn with rfl | hn
  ·omega
  ·have:=qn6 h.2 n hn;omega
def encO (rest:qDU)(least:Int):List (Int×Int):=if 0<least then spO least (rs rest) else []
def encS (rest:qDU)(least:Int):qDU:=if 0<least then flat (spS least (rs rest)) else rest
def encL (node:Int)(rest:qDU)(least:Int)(k:Nat):qDU :=
 if rest=[] then [] else (if 0<least then encR least node (encO rest least) else [])++zes k (gp false node (encS rest least))
def rstO (l fr:qDU)(back:Int):qDU:=if 0<back then rst fr l else l
def enc (node:Int)(l fr:qDU)(back least:Int)(k:Nat):qDU :=
 ga l.length++if l=[] then [] else (if 0<back then encB (tbs fr l) else [])++encL node (rstO l fr back) least k
theorem qx8 (hF:200000≤F){a l:qDU}(ha:gkc a=0)(hl:gkc l=0):qfO F a l=some (tbs a l,rst a l):=by
 obtain ⟨h1,h2⟩:=vw.1 ha
 obtain ⟨h3,h4⟩:=vw.1 hl
 have:=qrj hF (qb4 h2).1 (qb4 h4).1 h1 h3 F 0 [] true 0 (by omega) (by omega) (by simp) (by omega)
 rw[qBL,qBy] at this
 unfold qfO
 rw[show ((0:Nat):Int)=0 from rfl] at this
 rw[this]
 rfl
theorem qqp {k:Nat}(hF:20000≤F)(h1:1≤k)(h2:k≤16){l:qDU}{q:Int}(hr:Rep l f S)(hn:Nd node)(hm:rest.length≤300)(hs:Ris q rest) :
  Wr (yQ F node (k:Int) rest (l.length:Int) (pk l) f) (S++zes k (gp false node rest)):=by
 unfold yQ
 have h40:L40 (gp false node rest):=fun x hx=>by have:=qvl hn hs (by simp) x hx;omega
 have hp:=qxP (F:=F) (l:=[]) hF h1 h2 h40 (by rw[qqZ];omega) (by intro x hx;grind) (by simp)
 simp only[qBy,qCD] at hp
 rw[qxQ hF hm hn hs]
 simp only[qBb]
 rw[show qfn F 0 ([]:qDU) (gp false node rest) (k:Int)=_ from hp]
 simp only[qBb]
 unfold qa7
 by_cases hb:(zes k (gp false node rest)).length≤8192
 ·rw[if_pos hb]
  simp only[qB5,Bool.or_false]
  obtain ⟨l',f',e,h'⟩:=qoO hF hr (qtk k _) hb
  rw[e]
  exact ⟨l',f',rfl,h'⟩
 ·rw[if_neg hb]
  simp only[qDn,Bool.or_true]
  have hr':=qwf hr (k:=zes k (gp false node rest)) (by grind)
  obtain ⟨l',f',e,h'⟩:=qoO hF hr' (k:=[]) (by intro x hx;grind) (by simp)
  have e':vk F (l.length:Int) (pk l) true 0 []=some ((l'.length:Int),pk l',f'):=e
  rw[e']
  exact ⟨l',f',rfl,by grind⟩
theorem qnh {k:Nat}(hF:2000000≤F)(h1:1≤k)(h2:k≤16){l:qDU}{least:Int}(hr:Rep l f S)(hn:Nd node)(hg:gkc rest=0)(_hle:least=0∨2≤least∧least≤300) :
  Wr (yP F node least (k:Int) rest (l.length:Int) (pk l) f) (S++encL node rest least k):=by
 obtain ⟨hm,hs⟩:=vw.1 hg
 unfold yP encL encO encS
 by_cases h0:rest=[]
 ·subst h0
  exact ⟨l,f,rfl,by grind⟩
 ·have hlen:rest.length≠0:=by grind
  rw[if_neg (by simp_all),if_neg h0]
  by_cases hl:0<least
  ·rw[if_pos (by grind),if_pos hl,if_pos hl,if_pos hl,qrk hF hm hs]
   simp only[qBb]
   obtain ⟨s1,s2⟩:=qym (least:=least) hm hs
   obtain ⟨r1,r2⟩:=qwo hm hs
   obtain ⟨l',f',e,h'⟩:=qxg (F:=F) (R:=spO least (rs rest)) (least:=least) (node:=node) (q:=-1) (by omega) s1 (fun r hr=>⟨r2 r (qB7.1 hr).1,by simpa using (qB7.1 hr).2⟩) (by omega) hr hn (qg2 _ r1)
   rw[e]
   simp only[qBb]
   refine ql1 (qqp (by omega) h1 h2 h' hn s2 (qoq hs _)) ?_
   simp
  grind [qqp]
theorem qsZ {a l:qDU}(h:gkc l=0):gkc (rst a l)=0:=qyq h qCY
theorem qqs {k:Nat}(hF:2000000≤F)(h1:1≤k)(h2:k≤16){fr:qDU}{least:Int}(hn:Nd node)(hg:gkc x=0)(hfr:0<back→gkc fr=0)(hle:least=0∨2≤least∧least≤300) :
  Wr (vQ F 0 [] false node x fr back least (k:Int)) (enc node x fr back least k):=by
 obtain ⟨hm,hs⟩:=vw.1 hg
 unfold vQ enc rstO
 obtain ⟨l,f,e,hr⟩:=qdO (F:=F) (by omega) qyc (n:=(x.length:Int)) (by omega) (by omega)
 rw[show zi F 0 ([]:qDU) false (x.length:Int)=_ from e]
 simp only[qBb,qBy,qBh] at hr ⊢
 by_cases h0:x=[]
 ·subst h0
  rw[if_pos (by simp),if_pos rfl]
  exact ⟨l,f,rfl,by grind⟩
 ·rw[if_neg (by simpa using h0),if_neg h0]
  by_cases hb:0<back
  ·have hfg:=hfr hb
   have hfl:=(vw.1 hfg).1
   rw[if_pos (by grind),if_pos hb,if_pos hb,qx8 (by omega) hfg hg]
   simp only[qBb]
   have htl:=qoE fr x
   have hok:okB true (tbs fr x)=true:=qls _ _ _ _ (by omega) (Or.inl rfl)
   have hsum:bsum (tbs fr x)≤0+(fr.map (hasB x)).length:=qi7 _ _ _ (by omega)
   rw[qBD] at hsum
   have hbd:∀ n∈tbs fr x,n≤1000000:=fun n hnm=>by
    have:=qn6 hok n hnm
    omega
   obtain ⟨l',f',e',h'⟩:=qrN (F:=F) (bs:=tbs fr x) (by omega) (by omega) hr hok hbd
   grind [qnh,qsZ]
  grind [qnh]
def rgam (l:qDU)(p:Nat)(most:Int):Option (Int×Nat):=if (fg l p).2.2=0∧(fg l p).1≤most then some ((fg l p).1,(fg l p).2.1.toNat) else none
def Rd {α:Type}(l:qDU)(m:Option ((α×Int×Int) ⊕ (Int×Int)))(o:Option (α×Nat)):Prop :=
 match o with
 | none=>∃ z,m=some (.inr z)
 | some x=>m=some (.inl (x.1,(l.length:Int),(x.2:Int)))
theorem qaL {l:qDU}{x:Int×Nat}(h:rgam l p most=some x):0≤x.1∧x.1≤most∧x.1≤1099511627776∧x.2≤l.length:=by
 grind [rgam,qu8]
theorem qz0:yE F true=some (.inl ()):=rfl
theorem qvE:yE F false=some (.inr ()):=rfl
theorem qhQ (hF:20000≤F){l:qDU}(hl:Bit l)(hm:l.length≤8192)(hp:p≤l.length)(h0:0≤most)(h1:most≤1000000000):Rd l (zQ F (l.length:Int) (pk l) (p:Int) most) (rgam l p most):=by
 obtain ⟨mo,rfl⟩:=qBf h0
 unfold zQ rgam
 rw[qje hF hl hm hp]
 simp only[qBb]
 rw[vz (by omega)]
 rcases qu8 (l:=l) (a:=p) with h2 | ⟨n,q,h2,h3,h4⟩
 ·rw[if_neg (fun h=>h2 h.1),show ((fg l p).2.2 == 0 && decide ((fg l p).1≤(mo:Int)))=false from by grind,qvE]
  exact ⟨_,rfl⟩
 ·rw[h2]
  simp only[true_and,beq_self_eq_true,Bool.true_and]
  by_cases hc:(n:Int)≤mo
  ·rw[if_pos hc,decide_eq_true hc,qz0]
   show _=_
   grind [lbnd,qej]
  ·rw[if_neg hc,decide_eq_false hc,qvE]
   exact ⟨_,rfl⟩
theorem qfR {β:Type}{l:qDU}{m:Option ((α×Int×Int) ⊕ (Int×Int))}{o:Option (α×Nat)}{k:α×Int×Int→Option ((β×Int×Int) ⊕ (Int×Int))}{kl:Int×Int→Option ((β×Int×Int) ⊕ (Int×Int))}{g:α×Nat→Option (β×Nat)}(h:Rd l m o)(hk:∀ x,o=some x→Rd l (k (x.1,(l.length:Int),(x.2:Int))) (g x))(hkl:∀ z,∃ z',kl z=some (.inr z')):Rd l (lbnd m k kl) (o.bind g):=by
 cases o with
 | none =>
  obtain ⟨z,h⟩:=h
  rw[h]
  exact hkl z
 | some x =>
  have h':m=some (.inl (x.1,(l.length:Int),(x.2:Int))):=h
  rw[h']
  exact hk x rfl
def rbl (l:qDU)(many:Int):Nat→Bool→Nat→Option (qDU×Nat)
 | 0,_,p=>some ([],p)
 | k+1,b,p=>(rgam l p many).bind fun g=>(rbl l many k true g.2).bind fun r=>some ((g.1+if b then 1 else 0)::r.1,r.2)
def rblk (l:qDU)(p:Nat)(many:Int):Option (qDU×Nat):=(rgam l p (many+1)).bind fun g=>rbl l many g.1.toNat false g.2
theorem qsK {l:qDU}{many:Int}:∀ {k:Nat} {b:Bool} {p:Nat} {r:qDU×Nat},p≤l.length→rbl l many k b p=some r→r.1.length=k∧r.2≤l.length
 | 0,_,p,r,hp,h=>by simp only[rbl,qBl] at h;grind
 | k+1,b,p,r,hp,h=>by
  simp only[rbl,qBK,qBl] at h
  obtain ⟨g,h1,r',h2,rfl⟩:=h
  have h3:=qsK (qaL h1).2.2.2 h2
  simp_all
theorem qsw {lim n:Nat}{y:α}(h:n≤lim):mk lim y (n:Int)=some (qBd n y):=by
 grind [mk]
theorem qww {o r:List α}{x y:α}:(o++x::r).set o.length y=o++y::r:=by
 simp
theorem qn2 {o r:List α}{x:α}:idx (o++x::r) (o.length:Int)=some x:=by
 rw[qo];simp
theorem qm1 {F:Nat}(hF:20000≤F){l:qDU}(hl:Bit l)(hm:l.length≤8192){many:Int}(h0:0≤many)(h1:many≤1000000){w:qDU}(hw:w.length≤1000000):∀ (k:Nat) (o:qDU) (p:Nat),w.length<k+o.length→o.length≤w.length→p≤l.length →
  Rd l (qac F (pk l) many w k (o++qBd (w.length-o.length) 0,(o.length:Int),(l.length:Int),(p:Int)))
   ((rbl l many (w.length-o.length) (decide (0<o.length)) p).map fun r=>(o++r.1,r.2))
 | 0,_,_,_,_,_=>by omega
 | k+1,o,p,h,ho,hp=>by
  show Rd l (qab F (pk l) many w (qac F (pk l) many w k) (o++qBd (w.length-o.length) 0) (o.length:Int) (l.length:Int) (p:Int)) _
  unfold qab
  by_cases hlt:o.length<w.length
  ·rw[if_pos (by simp_all)]
   obtain ⟨d,hd⟩:∃ d,w.length-o.length=d+1:=⟨w.length-o.length-1,by omega⟩
   rw[hd]
   unfold rbl
   rw[qCi,qDI]
   refine qfR (qhQ hF hl hm hp h0 (by omega)) (fun g hg=>?_) (fun z=>⟨_,rfl⟩)
   have hok:=qaL hg
   rw[qn2,qBh,qww]
   simp only[qBb,lett,Function.comp]
   rw[qvp,zj (by omega) (by omega),qs (by omega)]
   have e:w.length-(o++[g.1+if 0<o.length then 1 else 0]).length=d:=by grind
   have:=qm1 hF hl hm h0 h1 hw k (o++[g.1+if 0<o.length then 1 else 0]) g.2 (by omega) (by grind) hok.2.2.2
   rw[e] at this
   simp only[qBn,qDf,qBk,qCS] at this
   rw[show decide (0<o.length+1)=true from by simp] at this
   have h9:((rbl l many d true g.2).bind fun r=>some ((g.1+if decide (0<o.length)=true then 1 else 0)::r.1,r.2)).map (fun r=>(o++r.1,r.2))=(rbl l many d true g.2).map fun r=>(o++(g.1+if 0<o.length then 1 else 0)::r.1,r.2):=by
    cases rbl l many d true g.2 <;> simp
   simp_all
  ·rw[if_neg (by simp_all),show w.length-o.length=0 from by omega]
   rfl
theorem qpU (hF:20000≤F){l:qDU}(hl:Bit l)(hm:l.length≤8192)(h0:0≤many)(h1:many≤1000)(hp:p≤l.length):Rd l (jx F (l.length:Int) (pk l) (p:Int) many) (rblk l p many):=by
 unfold jx rblk
 rw[zj (by omega) (by omega)]
 refine qfR (qhQ hF hl hm hp (by omega) (by omega)) (fun g hg=>?_) (fun z=>⟨_,rfl⟩)
 have hok:=qaL hg
 obtain ⟨n,hn⟩:=qBf hok.1
 rw[hn,qsw (by omega)]
 simp only[qBb,qBh]
 have:=qm1 hF hl hm h0 (by omega) (w:=qBd n 0) (by grind) F [] g.2 (by grind) (by simp) hok.2.2.2
 simp_all
theorem qib {xs:List (qDU)}{i:Nat}(h:xs[i]?=some x):(xs.drop i).flatten=x++(xs.drop (i+1)).flatten:=by
 grind [qBj]
theorem qmE {F:Nat}{xs:List (qDU)}(hm:xs.length≤1000):∀ (k i:Nat) (o:qDU),xs.length<k+i→i≤xs.length→o.length+(xs.drop i).flatten.length≤1000000 →
  zS F xs k (o,(i:Int))=some (o++(xs.drop i).flatten)
 | 0,_,_,_,_,_=>by omega
 | k+1,i,o,h,hi,ho=>by
  show qR F xs (zS F xs k) o (i:Int)=_
  unfold qR
  by_cases hlt:i<xs.length
  ·have hg:=qBc hlt
   have hf:=qib hg
   rw[hf,qBk] at ho
   rw[if_pos (by simp_all),qo,hg,hf]
   simp only[qBb]
   rw[zU (by omega),qs (by omega)]
   simp only[qBb]
   rw[qmE hm k (i+1) _ (by omega) (by omega) (by grind),qBn]
  grind [vK]
theorem qmF {F:Nat}(hF:20000≤F){xs:List (qDU)}(hm:xs.length≤1000)(ht:xs.flatten.length≤1000000):∀ (k i n:Nat),xs.length<k+i→i≤xs.length→n+(xs.drop i).flatten.length=xs.flatten.length →
  zT F xs k ((n:Int),(i:Int))=some xs.flatten
 | 0,_,_,_,_,_=>by omega
 | k+1,i,n,h,hi,hn=>by
  show qS F xs (zT F xs k) (n:Int) (i:Int)=_
  unfold qS
  by_cases hlt:i<xs.length
  ·have hg:=qBc hlt
   have hf:=qib hg
   rw[hf,qBk] at hn
   rw[if_pos (by simp_all),qo,hg]
   simp only[qBb]
   rw[qb3 (by omega),if_neg (by grind),qs (by omega)]
   exact qmF hF hm ht k (i+1) _ (by omega) (by omega) (by omega)
  ·rw[if_neg (by simp_all)]
   rw[qBm (by omega)] at hn
   simp only[List.flatten_nil,qCD] at hn
   unfold kI
   rw[qso (by omega)]
   simp only[qBb]
   have:=qmE (F:=F) hm F 0 [] (by omega) (by omega) (by grind)
   simp_all
theorem qqP (hF:20000≤F){a c:qDU}(h:a.length+(b.length+c.length)≤1000000):zR F [a,b,c]=some (a++(b++c)):=by
 have:=qmF (F:=F) hF (xs:=[a,b,c]) (by simp) (by grind) F 0 0 (by grind) (by simp) (by simp)
 simp only[List.flatten_cons,List.flatten_nil,qBR] at this
 exact this
theorem qyj {a:qDU}(h:a.length≤1000000):zb F a=some (srt a):=by
 grind [zb]
def rrn (l:qDU)(least many:Int):Nat→Bool→Int→Nat→Option (List (Int×Int)×Nat)
 | 0,_,_,p=>some ([],p)
 | k+1,b,a,p=>(rgam l p 2097152).bind fun g=>(rgam l g.2 many).bind fun x =>
   (rrn l least many k true (a+(if b then g.1+2 else k6 g.1)+(x.1+least)-1) x.2).bind fun r=>some ((a+(if b then g.1+2 else k6 g.1),x.1+least)::r.1,r.2)
def rrns (l:qDU)(p:Nat)(node least many:Int):Option (List (Int×Int)×Nat):=(rgam l p (many/least)).bind fun g=>rrn l least many g.1.toNat false node g.2
theorem qol {l:qDU}{least many:Int}:∀ {k:Nat} {b:Bool} {a:Int} {p:Nat} {r:List (Int×Int)×Nat},p≤l.length→rrn l least many k b a p=some r→r.1.length=k∧r.2≤l.length
 | 0,_,_,p,r,hp,h=>by simp only[rrn,qBl] at h;grind
 | k+1,b,a,p,r,hp,h=>by
  simp only[rrn,qBK,qBl] at h
  obtain ⟨g,h1,x,h2,r',h3,rfl⟩:=h
  have h4:=qol (qaL h2).2.2.2 h3
  simp_all
theorem qoJ {g:Int}(h0:0≤g)(h:g≤2097152):-1048577≤k6 g∧k6 g≤1048576:=by grind [k6]
theorem qsX {F:Nat}(hF:20000≤F){l:qDU}(hl:Bit l)(hm:l.length≤8192){least many:Int}(h0:0≤many)(h1:many≤300)(h2:2≤least)(h3:least≤300){w:List (Int×Int)}(hw:w.length≤1000):∀ (k:Nat) (o:List (Int×Int)) (a:Int) (p:Nat),w.length<k+o.length→o.length≤w.length→p≤l.length→(-3000000*((o.length:Int)+1)≤a∧a≤3000000*((o.length:Int)+1)) →
  Rd l (yA F (pk l) least many w k (o++qBd (w.length-o.length) (0,0),a,(o.length:Int),(l.length:Int),(p:Int)))
   ((rrn l least many (w.length-o.length) (decide (0<o.length)) a p).map fun r=>(o++r.1,r.2))
 | 0,_,_,_,_,_,_,_=>by omega
 | k+1,o,a,p,h,ho,hp,ha=>by
  show Rd l (qaI F (pk l) least many w (yA F (pk l) least many w k) (o++qBd (w.length-o.length) (0,0)) a (o.length:Int) (l.length:Int) (p:Int)) _
  unfold qaI
  by_cases hlt:o.length<w.length
  ·rw[if_pos (by simp_all)]
   obtain ⟨d,hd⟩:∃ d,w.length-o.length=d+1:=⟨w.length-o.length-1,by omega⟩
   rw[hd]
   unfold rrn
   rw[qCi,qDI]
   refine qfR (qhQ hF hl hm hp (by omega) (by omega)) (fun g hg=>?_) (fun z=>⟨_,rfl⟩)
   have hok:=qaL hg
   have hun:=qoJ hok.1 hok.2.1
   have hj:∀ (s:Int),s=a+(if decide (0<o.length)=true then g.1+2 else k6 g.1) →
     Rd l (yz F (yA F (pk l) least many w k) (pk l) least many (o++(0,0)::qBd d (0,0)) (o.length:Int) (g.1,(l.length:Int),(g.2:Int)) s)
      (Option.map (fun r=>(o++r.1,r.2)) ((rgam l g.2 many).bind fun x=>(rrn l least many d true (a+(if decide (0<o.length)=true then g.1+2 else k6 g.1)+(x.1+least)-1) x.2).bind fun r=>some ((a+(if decide (0<o.length)=true then g.1+2 else k6 g.1),x.1+least)::r.1,r.2))):=by
    intro s hs
    rw[← hs]
    have hsb:-3000000*((o.length:Int)+1)-1048577≤s∧s≤3000000*((o.length:Int)+1)+2097154:=by omega
    unfold yz
    rw[qDI]
    refine qfR (qhQ hF hl hm hok.2.2.2 h0 (by omega)) (fun x hx=>?_) (fun z=>⟨_,rfl⟩)
    have hox:=qaL hx
    rw[qn2,qBh,qww]
    simp only[qBb,lett,Function.comp]
    rw[qn2,zj (by omega) (by omega)]
    simp only[qBb]
    have e1:isub .i64 (x.1+least) 1=x.1+least-1:=zV (by omega) (by omega)
    rw[e1,zj (by omega) (by omega),qs (by omega)]
    have e:w.length-(o++[(s,x.1+least)]).length=d:=by grind
    have:=qsX hF hl hm h0 h1 h2 h3 hw k (o++[(s,x.1+least)]) (s+(x.1+least)-1) x.2 (by omega) (by grind) hox.2.2.2 (by omega)
    rw[e] at this
    simp only[qBn,qDf,qBk,qCS] at this
    rw[show decide (0<o.length+1)=true from by simp] at this
    have h9:((rrn l least many d true (s+(x.1+least)-1) x.2).bind fun r=>some ((s,x.1+least)::r.1,r.2)).map (fun r=>(o++r.1,r.2))=(rrn l least many d true (s+(x.1+least)-1) x.2).map fun r=>(o++(s,x.1+least)::r.1,r.2):=by
     cases rrn l least many d true (s+(x.1+least)-1) x.2 <;> simp
    grind
   simp only[Function.comp]
   by_cases hz:0<o.length
   ·rw[if_neg (by grind)]
    have e1:iadd .i64 g.1 2=g.1+2:=zj (by omega) (by omega)
    grind [zj]
   grind [qBf,vz,qnd,zj]
  ·rw[if_neg (by simp_all),show w.length-o.length=0 from by omega]
   rfl
theorem qtV (hF:20000≤F){l:qDU}(hl:Bit l)(hm:l.length≤8192){least:Int}(h0:0≤many)(h1:many≤300)(h2:2≤least)(h3:least≤300)(hn:Nd node)(hp:p≤l.length) :
  Rd l (qaH F (l.length:Int) (pk l) (p:Int) node least many) (rrns l p node least many):=by
 unfold qaH rrns
 unfold Nd at hn
 have hq:iquo .i64 many least=many/least:=by
  obtain ⟨m,rfl⟩:=qBf h0
  obtain ⟨c,rfl⟩:=qBf (show 0≤least by omega)
  unfold iquo
  rw[Int.tdiv_eq_ediv_of_nonneg (by omega)]
  have h5:(m:Int)/(c:Int)≤m:=qDb _ (by omega)
  grind [yk]
 have hd0:0≤many/least:=Int.ediv_nonneg h0 (by omega)
 have hd1:many/least≤many:=qDb _ h0
 have hc:∀ {ρ:Type} (m:Option ρ),chk (least != 0) m=m:=fun m=>by grind [chk]
 rw[hq,hc]
 refine qfR (qhQ hF hl hm hp hd0 (by omega)) (fun g hg=>?_) (fun z=>⟨_,rfl⟩)
 have hok:=qaL hg
 obtain ⟨n,hn'⟩:=qBf hok.1
 rw[hn',qsw (by omega)]
 simp only[qBb,qBh]
 have:=qsX hF hl hm h0 h1 h2 h3 (w:=qBd n (0,0)) (by grind) F [] node g.2 (by grind) (by simp) hok.2.2.2 (by omega)
 simp_all
def rls2 (l:qDU)(node:Int)(k:Nat)(many:Int)(out:qDU)(R:List (Int×Int))(p:Nat):Option (qDU×Nat) :=
 if (rm R []).2=0∧((rm R []).1.length:Int)≤many-out.length then
  match gfr l k (many-out.length-(rm R []).1.length).toNat false node p with
  | .inl _=>none
  | .inr g=>some (srt (out++((rm R []).1++g.1)),g.2)
 else none
def rls1 (l:qDU)(node least:Int)(k:Nat)(many:Int)(out:qDU)(p:Nat):Option (qDU×Nat) :=
 if many-out.length=0 then some (out,p) else
 if 0<least then (rrns l p node least (many-out.length)).bind fun r=>rls2 l node k many out r.1 r.2 else rls2 l node k many out [] p
def rls (l:qDU)(p:Nat)(node:Int)(fr:qDU)(back least:Int)(k:Nat):Option (qDU×Nat) :=
 (rgam l p 300).bind fun m=>if m.1=0 then some ([],m.2) else
  if 0<back then (rblk l m.2 fr.length).bind fun b=>if (cpy fr b.1).2=0∧((cpy fr b.1).1.length:Int)≤m.1 then rls1 l node least k m.1 (cpy fr b.1).1 b.2 else none
  else rls1 l node least k m.1 [] m.2
theorem qvu {σ ρ:Type}(y:α)(k:α→Option ρ)(kl:σ→Option ρ):lbnd (some (.inl y)) k kl=k y:=rfl
theorem qgV {c:Bool}{ρ:Type}(k kl:Unit→Option ρ):lbnd (yE F c) k kl=if c then k () else kl ():=by cases c <;> rfl
theorem qvh {l:qDU}{k:Nat}:∀ {m:Nat} {b:Bool} {a:Int} {p:Nat} {e:Int},gfr l k m b a p=.inl e→e≠0
 | 0,_,_,_,_,h=>by simp[gfr] at h
 | m+1,b,a,p,e,h=>by
  unfold gfr at h
  split at h
  ·simp_all
  ·split at h
   ·grind
   ·split at h
    ·rename_i e' he;simp only[Sum.inl.injEq] at h;rw[← h];exact qvh he
    simp_all
theorem qvg {l:qDU}{k:Nat}(hl:Bit l)(hk:1≤k):∀ {m:Nat} {b:Bool} {a:Int} {p:Nat} {r:qDU×Nat},p≤l.length→gfr l k m b a p=.inr r→r.2≤l.length
 | 0,_,_,p,r,hp,h=>by grind [gfr]
 | m+1,b,a,p,r,hp,h=>by
  unfold gfr at h
  split at h
  ·grind
  ·rename_i h1
   split at h
   ·grind
   ·split at h
    ·grind
    ·rename_i r' hr
     simp only[Sum.inr.injEq] at h
     rcases qzp hl (k:=k) (p:=p) hk with h2 | ⟨g,q,h2,h3,h4⟩
     ·omega
     ·rw[h2] at hr
      rw[← h]
      exact qvg (r:=r') hl hk h4 hr
theorem qsS {k:Nat}(hF:2000000≤F)(h1:1≤k)(h2:k≤16){l:qDU}(hl:Bit l)(hm:l.length≤8192)(hn:Nd node){out:qDU}(ho:(out.length:Int)≤many)(hmm:many≤300)(hp:p≤l.length){x:Int×Int×Int}(hx:x.1=many) :
  Rd l (yN F (pk l) node (k:Int) x out R (l.length:Int) (p:Int)) (rls2 l node k many out R p):=by
 unfold yN rls2
 rw[qvD (by omega),hx]
 simp only[qBb]
 have hlen:=qz9 (R:=R) (rest:=[])
 have e1:isub .i64 many (out.length:Int)=many-out.length:=zV (by omega) (by omega)
 rw[qgV,e1]
 by_cases hc:(rm R []).2=0∧((rm R []).1.length:Int)≤many-out.length
 ·have e2:isub .i64 (many-(out.length:Int)) ((rm R []).1.length:Int)=((many-out.length-(rm R []).1.length).toNat:Int):=by grind [zV]
  rw[if_pos (by grind),if_pos hc,e2,qvi (by omega) hl hm h1 h2 (by omega) hp hn]
  simp only[qBb]
  rw[qgV]
  cases hg:gfr l k (many-out.length-(rm R []).1.length).toNat false node p with
  | inl e =>
   have:=qvh hg
   rw[if_neg (show ¬ ((gfI [] (Sum.inl e:Int ⊕ (qDU×Nat))).2.2 == 0)=true by simpa[gfI] using this)]
   exact ⟨_,rfl⟩
  | inr g =>
   have hgl:=qsl hg
   rw[if_pos (show ((gfI [] (Sum.inr g:Int ⊕ (qDU×Nat))).2.2 == 0)=true by rfl),show (gfI [] (Sum.inr g:Int ⊕ (qDU×Nat))).1=g.1 from by rfl,qqP (by omega) (by omega)]
   simp only[qBb]
   rw[qyj (by grind)]
   simp only[qBb]
   have hch:∀ {ρ:Type} (q:Option ρ),chk (decide ((srt (out++((rm R []).1++g.1))).length=(out++((rm R []).1++g.1)).length)) q=q:=fun q=>by grind [chk,qhV]
   rw[hch]
   rfl
 ·rw[if_neg (by grind),if_neg hc]
  exact ⟨_,rfl⟩
theorem qsR {k:Nat}(hF:2000000≤F)(h1:1≤k)(h2:k≤16){l:qDU}(hl:Bit l)(hm:l.length≤8192){least:Int}(hn:Nd node){out:qDU}(ho:(out.length:Int)≤many)(hmm:many≤300)(hp:p≤l.length){x:Int×Int×Int}(hx:x.1=many)(hle:least=0∨2≤least∧least≤300) :
  Rd l (yM F (pk l) node least (k:Int) x out (l.length:Int) (p:Int)) (rls1 l node least k many out p):=by
 unfold yM rls1
 have e1:isub .i64 x.1 (out.length:Int)=many-out.length:=by grind [zV]
 rw[e1]
 by_cases h0:many-out.length=0
 ·rw[if_pos (by grind),if_pos h0]
  rfl
 ·rw[if_neg (by grind),if_neg h0]
  by_cases hs:0<least
  ·rw[if_pos (by grind),if_pos hs]
   refine qfR (qtV (by omega) hl hm (by omega) (by omega) (by omega) (by omega) hn hp) (fun r hr=>?_) (fun z=>⟨_,rfl⟩)
   have hq:r.2≤l.length:=by
    unfold rrns at hr
    rw[qBK] at hr
    obtain ⟨g,hg,hr⟩:=hr
    exact (qol (qaL hg).2.2.2 hr).2
   grind [qsS]
  grind [qsS]
theorem qsL {l:qDU}{b:qDU×Nat}(h:rblk l p many=some b):b.2≤l.length:=by
 unfold rblk at h
 rw[qBK] at h
 obtain ⟨g,hg,h⟩:=h
 exact (qsK (qaL hg).2.2.2 h).2
theorem qz8 {k:Nat}(hF:2000000≤F)(h1:1≤k)(h2:k≤16){l:qDU}(hl:Bit l)(hm:l.length≤8192){least:Int}{fr:qDU}(hn:Nd node)(hp:p≤l.length)(hfr:0<back→gkc fr=0)(hle:least=0∨2≤least∧least≤300) :
  Rd l (vO F (l.length:Int) (pk l) (p:Int) node fr back least (k:Int)) (rls l p node fr back least k):=by
 unfold vO rls
 refine qfR (qhQ (by omega) hl hm hp (by omega) (by omega)) (fun m hg=>?_) (fun z=>⟨_,rfl⟩)
 have hok:=qaL hg
 by_cases h0:m.1=0
 ·rw[if_pos (by grind),if_pos h0]
  rfl
 ·rw[if_neg (by grind),if_neg h0]
  by_cases hb:0<back
  ·have hfl:=(vw.1 (hfr hb)).1
   rw[if_pos (by grind),if_pos hb]
   refine qfR (qpU (by omega) hl hm (by omega) (by omega) hok.2.2.2) (fun b hbk=>?_) (fun z=>⟨_,rfl⟩)
   rw[qxB (by omega)]
   simp only[qBb]
   rw[qgV]
   by_cases hc:(cpy fr b.1).2=0∧((cpy fr b.1).1.length:Int)≤m.1
   ·rw[if_pos (by grind),if_pos hc]
    exact qsR hF h1 h2 hl hm hn hc.2 (by omega) (qsL hbk) rfl hle
   ·rw[if_neg (by grind),if_neg hc]
    exact ⟨_,rfl⟩
  ·rw[if_neg (by grind),if_neg hb]
   exact qsR hF h1 h2 hl hm hn (by simp_all) (by omega) hok.2.2.2 rfl hle
theorem qwj {k:Nat}{l:qDU}{least:Int}{fr:qDU}{r:qDU×Nat}(hl:Bit l)(h1:1≤k)(h:rls l p node fr back least k=some r):r.2≤l.length:=by
 have h2:∀ {many:Int} {out:qDU} {R:List (Int×Int)} {q:Nat},q≤l.length→rls2 l node k many out R q=some r→r.2≤l.length:=by
  intro many out R q hq hr
  unfold rls2 at hr
  split at hr
  ·split at hr
   ·grind
   ·rename_i g hg
    simp only[qBl] at hr
    rw[← hr]
    exact qvg (r:=g) hl h1 hq hg
  simp_all
 have h3:∀ {many:Int} {out:qDU} {q:Nat},q≤l.length→rls1 l node least k many out q=some r→r.2≤l.length:=by
  intro many out q hq hr
  unfold rls1 at hr
  split at hr
  ·grind
  ·split at hr
   ·rw[qBK] at hr
    obtain ⟨r',hr1,hr2⟩:=hr
    refine h2 ?_ hr2
    unfold rrns at hr1
    rw[qBK] at hr1
    obtain ⟨g,hg,hr1⟩:=hr1
    exact (qol (qaL hg).2.2.2 hr1).2
   grind
 unfold rls at h
 rw[qBK] at h
 obtain ⟨m,hm,h⟩:=h
 split at h
 ·simp only[qBl] at h;rw[← h];exact (qaL hm).2.2.2
 ·split at h
  ·rw[qBK] at h
   obtain ⟨b,hb,h⟩:=h
   grind [qsL]
  ·exact h3 (qaL hm).2.2.2 h
def rdl (l:qDU)(p:Nat)(node:Int)(fr:qDU)(back least:Int)(k:Nat):Option (qDU×Nat) :=
 (rls l p node fr back least k).bind fun r=>if gkc r.1=0∧(enc node r.1 fr back least k).length≤8192∧p+(enc node r.1 fr back least k).length=r.2∧(l.drop p).take (enc node r.1 fr back least k).length=enc node r.1 fr back least k then some r else none
theorem qs2 {F:Nat}{l e:qDU}(hl:Bit l)(hm:l.length≤8192)(he:Bit e)(hem:e.length≤8192){p:Nat}{x17:qDU×Int×Int}(h17:x17.2.1=(l.length:Int))(hpe:p+e.length≤l.length):∀ (k i:Nat),e.length<k+i→i≤e.length →
  (if (l.drop (p+i)).take (e.length-i)=e.drop i then yO F (pk l) (p:Int) x17 ((e.length:Int),pk e,false) k (i:Int)=some (x17.1,true,x17.2.1,x17.2.2)
   else ∃ a b,yO F (pk l) (p:Int) x17 ((e.length:Int),pk e,false) k (i:Int)=some ([],false,a,b))
 | 0,_,_,_=>by omega
 | k+1,i,h,hi=>by
  have hd:yO F (pk l) (p:Int) x17 ((e.length:Int),pk e,false) (k+1) (i:Int)=qa6 F (pk l) (p:Int) x17 ((e.length:Int),pk e,false) (yO F (pk l) (p:Int) x17 ((e.length:Int),pk e,false) k) (i:Int):=rfl
  rw[hd]
  unfold qa6
  by_cases hlt:i<e.length
  ·rw[if_pos (show decide ((i:Int)<(((e.length:Int),pk e,false):Int×qDU×Bool).1)=true by simp_all)]
   simp only
   rw[qpc he (by omega) hlt,h17,qb3 (by omega),qpc hl (by omega) (show p+i<l.length by omega)]
   simp only[qBb]
   rw[qgV]
   have ih:=qs2 (F:=F) hl hm he hem h17 hpe k (i+1) (by omega) (by omega)
   have hstep:((l.drop (p+i)).take (e.length-i)=e.drop i)↔(e[i]=l[p+i]∧(l.drop (p+(i+1))).take (e.length-(i+1))=e.drop (i+1)):=by
    rw[qBj (show p+i<l.length by omega),qBj hlt,show e.length-i=(e.length-(i+1))+1 from by omega,List.take_succ_cons,List.cons.injEq,show p+i+1=p+(i+1) from by omega]
    grind
   rw[qs (by omega)]
   grind
  ·obtain rfl:i=e.length:=by omega
   rw[if_neg (show ¬ decide (((e.length:Nat):Int)<(((e.length:Int),pk e,false):Int×qDU×Bool).1)=true by simp)]
   rw[if_pos (by simp)]
   rfl
theorem qxH {fr:qDU}{least:Int}{k:Nat}:1≤(enc node x fr back least k).length:=by
 grind [enc,qnX]
theorem qwm {k:Nat}(hF:2000000≤F)(h1:1≤k)(h2:k≤16){l:qDU}(hl:Bit l)(hm:l.length≤8192){least:Int}{fr:qDU}(hn:Nd node)(hp:p≤l.length)(hfr:0<back→gkc fr=0)(hle:least=0∨2≤least∧least≤300) :
  match rdl l p node fr back least k with
  | none=>∃ a b,vP F (l.length:Int) (pk l) (p:Int) node fr back least (k:Int)=some ([],false,a,b)
  | some r=>vP F (l.length:Int) (pk l) (p:Int) node fr back least (k:Int)=some (r.1,true,(l.length:Int),(r.2:Int)):=by
 have hL:=qz8 hF h1 h2 hl hm hn hp hfr hle
 unfold vP rdl
 cases hr:rls l p node fr back least k with
 | none =>
  rw[hr] at hL
  obtain ⟨z,hz⟩:=hL
  rw[hz]
  exact ⟨_,_,rfl⟩
 | some r =>
  rw[hr] at hL
  have hL':vO F (l.length:Int) (pk l) (p:Int) node fr back least (k:Int)=some (.inl (r.1,(l.length:Int),(r.2:Int))):=hL
  have hat:=qwj hl h1 hr
  rw[hL',qvu,qgu (by omega)]
  simp only[qBb]
  rw[qgV]
  by_cases hg:gkc r.1=0
  ·obtain ⟨e,f,he,hrep⟩:=qqs hF h1 h2 (x:=r.1) hn hg hfr hle
   have hen:=qxH (node:=node) (x:=r.1) (fr:=fr) (back:=back) (least:=least) (k:=k)
   rw[if_pos (show (gkc r.1 == 0)=true by grind),he]
   simp only[qBb]
   cases f with
   | true =>
    have hfl:=hrep.full rfl
    rw[qgV]
    rw[if_neg (fun hh=>by omega)]
    exact ⟨_,_,rfl⟩
   | false =>
    have hel:=hrep.ok rfl
    have heb:=hrep.bit
    have hem:=hrep.len
    rw[hel] at heb hem ⊢
    simp only[qDn,if_true]
    rw[zV (by omega) (by omega),qgV]
    by_cases hq:p+(enc node r.1 fr back least k).length=r.2
    ·rw[if_pos (show (((enc node r.1 fr back least k).length:Int) == (r.2:Int)-p)=true by grind)]
     unfold vZ
     have:=qs2 (F:=F) hl hm heb hem (p:=p) (x17:=(r.1,(l.length:Int),(r.2:Int))) rfl (by omega) F 0 (by omega) (by omega)
     grind
    grind
  simp_all
theorem qhR {n:Nat}(hn:n≤1099511627776)(hm:(n:Int)≤most)(P R:qDU):rgam (P++(ga n++R)) P.length most=some ((n:Int),P.length+(ga n).length):=by
 unfold rgam
 rw[← qBn,qAM hn]
 grind
theorem qoj {n:Int}(h0:0≤n)(hn:n≤1099511627776)(hm:n≤most)(P R:qDU):rgam (P++(ga n.toNat++R)) P.length most=some (n,P.length+(ga n.toNat).length):=by
 grind [qhR]
theorem qsJ {many:Int}(hmany:many≤1000000):∀ (bs:qDU) (b:Bool) (P R:qDU),okB (!b) bs=true→(∀ n∈bs,n≤many)→rbl (P++(encBs b bs++R)) many bs.length b P.length=some (bs,P.length+(encBs b bs).length)
 | [],b,P,R,_,_=>by rfl
 | n::bs,b,P,R,h,hb=>by
  rw[qhD] at h
  simp only[qBY,qCE,decide_eq_true_eq,qCG] at h
  have hn:=hb n (by simp)
  have hv:0≤n-(if b=true then 1 else 0):=by
   grind
  unfold encBs
  simp only[qBA,rbl,qBn]
  rw[qoj hv (by omega) (by omega)]
  simp only[qBb]
  have:=qsJ hmany bs true (P++ga (n-if b=true then 1 else 0).toNat) R (by simp_all) (fun z hz=>hb z (by grind))
  grind
theorem qwb (hmany:many≤1000000){bs:qDU}(P R:qDU)(h:okB true bs=true)(hb:∀ n∈bs,n≤many)(hl:(bs.length:Int)≤many+1):rblk (P++(encB bs++R)) P.length many=some (bs,P.length+(encB bs).length):=by
 grind [rblk,encB,qhR,qBh,qsJ,qBk]
theorem qsW {least many:Int}(hle:0≤least):∀ (R:List (Int×Int)) (b:Bool) (a q:Int) (P T:qDU),(∀ r∈R,RunOk r∧least≤r.2∧r.2-least≤many)→Nd a→Sep q R→(b=true→a+1≤q) →
  rrn (P++(encRs least b a R++T)) least many R.length b a P.length=some (R,P.length+(encRs least b a R).length)
 | [],_,_,_,P,T,_,_,_,_=>by rfl
 | r::R,b,a,q,P,T,hR,ha,hs,hb=>by
  obtain ⟨hro,hrl,hrm⟩:=hR r (by simp)
  obtain ⟨s1,s2,s3⟩:=hs
  unfold RunOk at hro
  unfold Nd at ha
  have hf:=qld (x:=r.1-a) (by omega)
  have hf2:foldOf (r.1-a)≤2097152:=by grind [foldOf]
  have hv:0≤(if b=true then r.1-a-2 else foldOf (r.1-a))∧(if b=true then r.1-a-2 else foldOf (r.1-a))≤2097152:=by
   grind
  unfold encRs
  simp only[qBA,rrn,qBn]
  rw[qoj hv.1 (by omega) hv.2]
  simp only[qBb]
  have e1:=qoj (n:=r.2-least) (most:=many) (by omega) (by omega) hrm (P++ga (if b=true then r.1-a-2 else foldOf (r.1-a)).toNat) (encRs least true (r.1+r.2-1) R++T)
  simp only[qBn,qBk] at e1
  rw[e1]
  simp only[qBb]
  have e2:a+(if b=true then (if b=true then r.1-a-2 else foldOf (r.1-a))+2 else k6 (if b=true then r.1-a-2 else foldOf (r.1-a)))=r.1:=by
   cases b with
   | false=>simp only[qBq,if_false];rw[qkq];omega
   | true=>grind
  rw[e2,show r.2-least+least=r.2 from by omega]
  have:=qsW hle R true (r.1+r.2-1) (r.1+r.2) ((P++ga (if b=true then r.1-a-2 else foldOf (r.1-a)).toNat)++ga (r.2-least).toNat) T (fun z hz=>hR z (by grind)) (by unfold Nd;omega) s3 (fun _=>by omega)
  grind
theorem qmS {least q:Int}(hle:2≤least):∀ {R:List (Int×Int)},Sep q R→(∀ r∈R,least≤r.2)→least*(R.length:Int)≤((flat R).length:Int)
 | [],_,_=>by simp
 | r::R,hs,hR=>by
  have h1:=hR r (by simp)
  have:=qmS hle hs.2.2 (fun z hz=>hR z (by grind))
  rw[yg,qBk,qeW,qBA]
  grind
theorem qwn {least q:Int}(hle:2≤least)(P T:qDU)(hR:∀ r∈R,RunOk r∧least≤r.2)(hn:Nd node)(hs:Sep q R)(hm:((flat R).length:Int)≤many)(hmm:many≤300) :
  rrns (P++(encR least node R++T)) P.length node least many=some (R,P.length+(encR least node R).length):=by
 unfold rrns encR
 have h1:=qmS hle hs (fun r hr=>(hR r hr).2)
 have h2:(R.length:Int)≤many/least:=by
  rw[Int.le_ediv_iff_mul_le (by omega)]
  grind
 have h3:many/least≤many:=qDb _ (by omega)
 rw[qBn,qhR (by omega) h2]
 simp only[qBb,qBh]
 have:=qsW (least:=least) (many:=many) (by omega) R false node q (P++ga R.length) T (fun r hr=>⟨(hR r hr).1,(hR r hr).2,by have:=qjQ hr;omega⟩) hn hs (by simp)
 grind
theorem qse {least:Int}(h:gkc rest=0):skc (encO rest least)=0∧Ris (-1) (encS rest least)∧(flat (encO rest least)++encS rest least).Perm rest∧(flat (encO rest least)).Pairwise (·≤·):=by
 obtain ⟨hm,hs⟩:=vw.1 h
 unfold encO encS
 by_cases hl:0<least
 ·rw[if_pos hl,if_pos hl]
  exact ⟨qyr hm hs _,qoq hs _,qp6 _ _,qsI (qb4 (qoq hs _)).1⟩
 ·rw[if_neg hl,if_neg hl]
  exact ⟨by decide,hs,by rfl,by simp[flat]⟩
theorem qpX {k:Nat}(h1:1≤k)(h2:k≤16){least:Int}(hn:Nd node){out:qDU}(hr:gkc rest=0)(hx:gkc x=0)(hp:(out++rest).Perm x)(P T:qDU) :
  rls2 (P++(zes k (gp false node (encS rest least))++T)) node k x.length out (encO rest least) P.length=some (x,P.length+(zes k (gp false node (encS rest least))).length):=by
 obtain ⟨e1,e2,e3,e4⟩:=qse (least:=least) hr
 have hrm:=(vw.1 hr).1
 have hlen:=e3.length_eq
 have hlen2:=hp.length_eq
 rw[qBk] at hlen hlen2
 have hrmm:rm (encO rest least) []=(flat (encO rest least),0):=qtT e1 (by decide) (by rw[qr9];simp) (by simp) e4 (by omega)
 unfold rls2
 rw[hrmm]
 simp only[true_and]
 rw[if_pos (by omega),show ((x.length:Int)-out.length-(flat (encO rest least)).length).toNat=(gp false node (encS rest least)).length from by rw[qqZ];omega]
 have h40:L40 (gp false node (encS rest least)):=fun z hz=>by have:=qvl hn e2 (by simp) z hz;omega
 have:=qsm h1 h2 P T h40 (qyZ (b:=false) hn e2 (by simp))
 rw[qBn] at this
 rw[this]
 simp only
 have hpx:(out++(flat (encO rest least)++encS rest least)).Perm x:=(List.Perm.append_left out e3).trans hp
 grind [qoo,qsI,qle]
theorem qpW {k:Nat}(h1:1≤k)(h2:k≤16){least:Int}(hn:Nd node)(hle:least=0∨2≤least∧least≤300){out:qDU}(hr:gkc rest=0)(hx:gkc x=0)(ho:out.Pairwise (·≤·))(hp:(out++rest).Perm x)(P T:qDU) :
  rls1 (P++(encL node rest least k++T)) node least k x.length out P.length=some (x,P.length+(encL node rest least k).length):=by
 have hlen2:=hp.length_eq
 have hxm:=(vw.1 hx).1
 obtain ⟨hrm,hrs⟩:=vw.1 hr
 rw[qBk] at hlen2
 unfold rls1 encL
 by_cases h0:rest=[]
 ·subst h0
  simp only[qCD,Nat.add_zero] at hlen2
  rw[if_pos (by omega),if_pos rfl]
  rw[qBR] at hp
  have e1:=qoo hp (qsI (qle hx))
  have e2:=qoo (qBF out) ho
  simp_all
 ·have hl0:rest.length≠0:=by grind
  rw[if_neg (by omega),if_neg h0]
  by_cases hl:0<least
  ·obtain ⟨e1,e2,e3,e4⟩:=qse (least:=least) hr
   have hlen:=e3.length_eq
   rw[qBk] at hlen
   obtain ⟨r1,r2⟩:=qwo hrm hrs
   have hO:encO rest least=spO least (rs rest):=by grind [encO]
   rw[if_pos hl,if_pos hl,qBn,qwn (q:=-1) (by omega) _ _ (fun r hrr=>by rw[hO] at hrr;exact ⟨r2 r (qB7.1 hrr).1,by simpa using (qB7.1 hrr).2⟩) hn (by rw[hO];exact qg2 _ r1) (by omega) (by omega)]
   grind [qpX,qBk]
  ·rw[if_neg hl,if_neg hl,qBy]
   have hO:encO rest least=[]:=by grind [encO]
   grind [qpX]
theorem qye {k:Nat}(h1:1≤k)(h2:k≤16){least:Int}{fr:qDU}(hn:Nd node)(hle:least=0∨2≤least∧least≤300)(hx:gkc x=0)(hfr:0<back→gkc fr=0)(P T:qDU) :
  rls (P++(enc node x fr back least k++T)) P.length node fr back least k=some (x,P.length+(enc node x fr back least k).length):=by
 have hxm:=(vw.1 hx).1
 unfold rls enc rstO
 rw[qBn,qhR (by omega) (by omega)]
 simp only[qBb]
 by_cases h0:x=[]
 ·simp_all
 ·have hx0:x.length≠0:=by grind
  rw[if_neg (by omega),if_neg h0]
  by_cases hb:0<back
  ·have hfg:=hfr hb
   have hfl:=(vw.1 hfg).1
   rw[if_pos hb,if_pos hb,if_pos hb]
   have htl:=qoE fr x
   have hok:okB true (tbs fr x)=true:=qls _ _ _ _ (by omega) (Or.inl rfl)
   have hsum:bsum (tbs fr x)≤0+(fr.map (hasB x)).length:=qi7 _ _ _ (by omega)
   rw[qBD] at hsum
   have e1:=qwb (many:=(fr.length:Int)) (by omega) (bs:=tbs fr x) (P++ga x.length) (encL node (rst fr x) least k++T) hok (fun n hnm=>by have:=qn6 hok n hnm;omega) (by omega)
   simp only[qBn,qBk] at e1
   rw[qBn,e1]
   simp only[qBb]
   rw[qxE hfg]
   have hbe:=qvS hfg hx
   have hfx:(fr.filter (hasB x)).length≤x.length:=by grind
   rw[if_pos ⟨rfl,by simp_all⟩]
   have hperm:(fr.filter (hasB x)++rst fr x).Perm x:=by rw[hbe];exact qtD _ _
   have:=qpW h1 h2 hn hle (qsZ hx) hx (qsI ((qle hfg).sublist qCY)) hperm ((P++ga x.length)++encB (tbs fr x)) T
   grind
  ·rw[if_neg hb,if_neg hb,if_neg hb,qBy]
   have:=qpW h1 h2 hn hle hx hx (out:=[]) (by simp) (by simp) (P++ga x.length) T
   grind
def hcB (back least k:Int):Prop:=back<0∨7<back∨least<0∨least=1∨300<least∨k<1∨16<k
instance hcDec (back least k:Int):Decidable (hcB back least k):=inferInstanceAs (Decidable (_∨_))
def hcE (back least k:Int):Int:=if hcB back least k then 3 else 0
def scE (node:Int)(fr:qDU)(back:Int):Int:=if Nd node then (if 0<back then gkc fr else 0) else 3
theorem qe0 {least:Int}:vv F back least k=some (hcE back least k):=by
 unfold vv hcE
 by_cases h:hcB back least k
 ·rw[if_pos (by unfold hcB at h;grind),if_pos h]
 ·rw[if_neg (by unfold hcB at h;simp_all),if_neg h]
theorem qtZ (hF:20000≤F){least:Int}{fr:qDU}:qeU F node fr back least k=some (scE node fr back):=by
 grind [qeU,scE,Nd,qgu]
theorem qeK {least:Int}(h:hcE back least k=0):(0≤back∧back≤7)∧(least=0∨2≤least∧least≤300)∧∃ k':Nat,k=(k':Int)∧1≤k'∧k'≤16:=by
 unfold hcE at h
 split at h
 ·omega
 ·rename_i h1
  unfold hcB at h1
  exact ⟨by omega,by omega,k.toNat,by omega,by omega,by omega⟩
theorem qAc {fr:qDU}(h:scE node fr back=0):Nd node∧(0<back→gkc fr=0):=by
 grind [scE]
theorem qAb {fr:qDU}(h:Nd node)(h2:0<back→gkc fr=0):scE node fr back=0:=by
 grind [scE]
theorem qp2 {k:Nat}(hF:2000000≤F)(h1:1≤k)(h2:k≤16){l:qDU}(hl:Bit l)(hm:l.length≤8192){least:Int}{fr:qDU}(hn:Nd node)(hp:p≤l.length)(hfr:0<back→gkc fr=0)(hle:least=0∨2≤least∧least≤300) :
  qap F (l.length:Int) (pk l) (p:Int) node fr back least (k:Int)=some (match rdl l p node fr back least k with | none=>([],0,1) | some r=>(r.1,(r.2:Int),0)):=by
 grind [qwm,qap]
def swE (node:Int)(x fr:qDU)(back least k:Int):Int:=if hcE back least k≠0 then hcE back least k else if ¬ Nd node then 3 else if gkc x≠0 then gkc x else scE node fr back
def sw (node:Int)(x fr:qDU)(back least k:Int):Int×qDU×Int :=
 if swE node x fr back least k≠0 then (0,[],swE node x fr back least k) else
 if 8192<(enc node x fr back least k.toNat).length then (0,[],8) else (((enc node x fr back least k.toNat).length:Int),pk (enc node x fr back least k.toNat),0)
theorem qAk {least:Int}{fr:qDU}(h:swE node x fr back least k=0):hcE back least k=0∧Nd node∧gkc x=0∧(0<back→gkc fr=0):=by
 grind [swE,qAc]
theorem qAj {least:Int}{fr:qDU}(h1:hcE back least k=0)(h2:Nd node)(h3:gkc x=0)(h4:0<back→gkc fr=0):swE node x fr back least k=0:=by
 grind [swE,qAb]
theorem qt5 (hF:2000000≤F){least:Int}{fr:qDU}:qeT F node x fr back least k=some (sw node x fr back least k):=by
 have hj:qaX F node x fr back least k (swE node x fr back least k)=some (sw node x fr back least k):=by
  unfold qaX sw
  by_cases h:swE node x fr back least k=0
  ·rw[if_neg (by grind),if_neg (by omega)]
   obtain ⟨h1,h2,h3,h4⟩:=qAk h
   obtain ⟨k1,k2,k',rfl,k3,k4⟩:=qeK h1
   obtain ⟨l,f,e,hr⟩:=qqs hF k3 k4 h2 h3 h4 k2
   rw[e]
   simp only[qBb,qBh]
   cases f with
   | true=>have:=hr.full rfl;simp_all
   | false =>
    have e1:=hr.ok rfl
    have e2:=hr.len
    simp_all
  simp_all
 unfold qeT
 rw[qe0]
 simp only[qBb]
 by_cases h1:hcE back least k=0
 ·rw[if_pos (by grind),qx1]
  grind [qaY,qaV,qgu,qaW,swE,qtZ]
 grind [swE,qaY,qaV,qaW]
theorem qsM {k:Nat}(h1:1≤k)(h2:k≤16){least:Int}{fr:qDU}(hn:Nd node)(hle:least=0∨2≤least∧least≤300)(hx:gkc x=0)(hfr:0<back→gkc fr=0)(P T:qDU)(hL:(enc node x fr back least k).length≤8192) :
  rdl (P++(enc node x fr back least k++T)) P.length node fr back least k=some (x,P.length+(enc node x fr back least k).length):=by
 grind [rdl,qye]
theorem qpV {k:Nat}{l:qDU}{least:Int}{fr:qDU}{r:qDU×Nat}(hl:Bit l)(h1:1≤k)(h:rdl l p node fr back least k=some r) :
  gkc r.1=0∧(enc node r.1 fr back least k).length≤8192∧p+(enc node r.1 fr back least k).length=r.2∧(l.drop p).take (enc node r.1 fr back least k).length=enc node r.1 fr back least k∧r.2≤l.length:=by
 unfold rdl at h
 rw[qBK] at h
 obtain ⟨r',h2,h⟩:=h
 split at h
 ·rename_i hc
  simp only[qBl] at h
  subst h
  exact ⟨hc.1,hc.2.1,hc.2.2.1,hc.2.2.2,qwj hl h1 h2⟩
 simp_all
theorem qsf {least:Int}{fr:qDU}{k:Nat}:Bit (enc node x fr back least k):=by
 have hn:Bit ([]:qDU):=by intro z hz;grind
 have h1:∀ (bs:qDU) (b:Bool),Bit (encBs b bs):=by
  intro bs
  induction bs with
  | nil=>intro b;exact hn
  | cons n bs ih=>intro b;exact vl (qiB _) (ih true)
 have h2:∀ (R:List (Int×Int)) (b:Bool) (a:Int),Bit (encRs least b a R):=by
  intro R
  induction R with
  | nil=>intro b a;exact hn
  | cons r R ih=>intro b a;exact vl (qiB _) (vl (qiB _) (ih true _))
 grind [enc,encL,encB,encR,vl,qiB,qtk]
theorem qA1 {least:Int}{fr:qDU}(h:swE node x fr back least k=0)(h2:(enc node x fr back least k.toNat).length≤8192):sw node x fr back least k=(((enc node x fr back least k.toNat).length:Int),pk (enc node x fr back least k.toNat),0):=by
 grind [sw]
def pkH (B:Int)(r:Nat):qDU:=if 0<B then ga r else []
def pkF (g:List (qDU))(i r:Nat):qDU:=if 0<r then g.getD (i-r) [] else []
def pkW (g:List (qDU))(B least:Int)(k i r:Nat):qDU:=pkH B r++enc (i:Int) (g.getD i []) (pkF g i r) (r:Int) least k
def bwy (f:Nat→qDU):Nat→Nat×qDU
 | 0=>(0,f 0)
 | n+1=>if (f (n+1)).length<(bwy f n).2.length then (n+1,f (n+1)) else bwy f n
theorem quI (f:Nat→qDU):∀ n:Nat,(bwy f n).1≤n∧(bwy f n).2=f (bwy f n).1
 | 0=>⟨qBo _,rfl⟩
 | n+1=>by
  have:=quI f n
  unfold bwy
  grind
theorem qr4 (f:Nat→qDU):∀ {n r:Nat},r≤n→(bwy f n).2.length≤(f r).length
 | 0,r,h=>by
  have:r=0:=by omega
  subst this;exact qBo _
 | n+1,r,h=>by
  unfold bwy
  by_cases hr:r=n+1
  ·grind
  ·have:=qr4 f (n:=n) (r:=r) (by omega)
   grind
theorem qmB {f f':Nat→qDU}:∀ {n:Nat},(∀ r,r≤n→f r=f' r)→bwy f n=bwy f' n
 | 0,h=>by unfold bwy;simp_all
 | n+1,h=>by
  unfold bwy
  rw[h (n+1) (qBo _),qmB (n:=n) fun r hr=>h r (by omega)]
def pkN (g:List (qDU))(B least:Int)(k i:Nat):Nat×qDU:=bwy (pkW g B least k i) (min B.toNat i)
def pkA (g:List (qDU))(B least:Int)(k:Nat):Nat→qDU×qDU×qDU
 | 0=>([],[],[])
 | n+1=>((pkA g B least k n).1++(pkN g B least k n).2,(pkA g B least k n).2.1++[((pkN g B least k n).1:Int)],(pkA g B least k n).2.2++[((pkA g B least k n).1.length:Int)])
def pkE (g:List (qDU))(B least k:Int):Int:=if gchk g≠0 then gchk g else if hcE B least k≠0 then hcE B least k else if 8192<(pkA g B least k.toNat g.length).1.length then 8 else 0
theorem qiF {least:Int}(h:pkE g B least k=0):gchk g=0∧hcE B least k=0∧(pkA g B least k.toNat g.length).1.length≤8192:=by
 grind [pkE]
theorem qz3 {least:Int}(h1:gchk g=0)(h2:hcE B least k=0)(h3:(pkA g B least k.toNat g.length).1.length≤8192):pkE g B least k=0:=by
 grind [pkE]
theorem qod {g:List (qDU)}{B least:Int}{k:Nat}:∀ {n i:Nat},i≤n→∃ R,(pkA g B least k n).1=(pkA g B least k i).1++R
 | 0,i,h=>by
  simp_all
 | n+1,i,h=>by
  by_cases hi:i=n+1
  ·simp_all
  ·obtain ⟨R,hR⟩:=qod (g:=g) (B:=B) (least:=least) (k:=k) (n:=n) (i:=i) (by omega)
   grind [pkA]
theorem qpK {g:List (qDU)}{B least:Int}{k:Nat}:∀ n:Nat,(pkA g B least k n).2.1.length=n∧(pkA g B least k n).2.2.length=n
 | 0=>⟨rfl,rfl⟩
 | n+1=>by
  have:=qpK (g:=g) (B:=B) (least:=least) (k:=k) n
  grind [pkA]
theorem qhE {least:Int}{k n i:Nat}(h:i≤n):(pkA g B least k i).1.length≤(pkA g B least k n).1.length:=by
 obtain ⟨R,hR⟩:=qod (g:=g) (B:=B) (least:=least) (k:=k) h
 simp_all
theorem qlx {least:Int}{k i:Nat}:(pkN g B least k i).1≤min B.toNat i∧(pkN g B least k i).2=pkW g B least k i (pkN g B least k i).1:=quI _ _
theorem qpL {least:Int}{k n i:Nat}(h:i<n):∃ R,(pkA g B least k n).1=(pkA g B least k i).1++((pkH B (pkN g B least k i).1++enc (i:Int) (g.getD i []) (pkF g i (pkN g B least k i).1) ((pkN g B least k i).1:Int) least k)++R):=by
 obtain ⟨R,hR⟩:=qod (g:=g) (B:=B) (least:=least) (k:=k) (n:=n) (i:=i+1) h
 grind [pkA,qlx,pkW]
theorem qzP (h:Gr g){l:qDU}(hl:l∈g):gkc l=0:=by
 have h1:=h.2.1 l hl
 have h2:=qdG h hl
 have h3:=h.1
 grind [vw,qoi,Nd]
theorem qnY (h:Gr g)(i:Nat):gkc (g.getD i [])=0:=by
 by_cases hi:i<g.length
 ·grind [qzP]
 ·rw[List.getD_eq_getElem?_getD,List.getElem?_eq_none (by omega)]
  decide
theorem qkG (h:Gr g)(i r:Nat):gkc (pkF g i r)=0:=by
 unfold pkF
 split
 ·exact qnY h _
 rfl
def pkO (l:qDU)(B:Int)(node p:Nat):Option (Int×Nat):=if B=0 then some (0,p) else rgam l p (min B (node:Int))
def pkR (l:qDU)(B least:Int)(k:Nat):Nat→List (qDU)→Nat→Option (List (qDU)×Nat)
 | 0,out,p=>some (out,p)
 | m+1,out,p=>(pkO l B out.length p).bind fun o=>(rdl l o.2 (out.length:Int) (pkF out out.length o.1.toNat) o.1 least k).bind fun r=>pkR l B least k m (out++[r.1]) r.2
theorem qvW {i:Nat}(h:r≤i)(_hi:i≤g.length):pkF (g.take i) i r=pkF g i r:=by
 grind [pkF]
theorem qof {g:List (qDU)}(hg:Gr g){B least:Int}{k:Nat}(hh:hcE B least (k:Int)=0)(hl:(pkA g B least k g.length).1.length≤8192)(T:qDU):∀ (m i:Nat),i+m=g.length →
  pkR ((pkA g B least k g.length).1++T) B least k m (g.take i) (pkA g B least k i).1.length=some (g,(pkA g B least k g.length).1.length)
 | 0,i,h=>by
  grind [pkR]
 | m+1,i,h=>by
  have hi:i<g.length:=by omega
  obtain ⟨k1,k2,k',hk,k3,k4⟩:=qeK hh
  have hkk:k=k':=by omega
  subst hkk
  obtain ⟨hr,_⟩:=qlx (g:=g) (B:=B) (least:=least) (k:=k) (i:=i)
  have hgl:=hg.1
  have hti:(g.take i).length=i:=by grind
  obtain ⟨R,hR⟩:=qpL (g:=g) (B:=B) (least:=least) (k:=k) hi
  have hnext:=qof hg hh hl T m (i+1) (by omega)
  have hA:(pkA g B least k (i+1)).1.length=(pkA g B least k i).1.length+(pkH B (pkN g B least k i).1).length+(enc (i:Int) (g.getD i []) (pkF g i (pkN g B least k i).1) ((pkN g B least k i).1:Int) least k).length:=by
   grind [pkA,pkW]
  have hO:pkO ((pkA g B least k g.length).1++T) B i (pkA g B least k i).1.length=some (((pkN g B least k i).1:Int),(pkA g B least k i).1.length+(pkH B (pkN g B least k i).1).length):=by
   grind [pkO,pkH,qhR]
  unfold pkR
  rw[hti,hO]
  simp only[qBb,qBh]
  rw[qvW (by omega) (by omega)]
  have hE:(enc (i:Int) (g.getD i []) (pkF g i (pkN g B least k i).1) ((pkN g B least k i).1:Int) least k).length≤8192:=by
   grind
  have hD:=qsM (k:=k) k3 k4 (node:=(i:Int)) (back:=((pkN g B least k i).1:Int)) (least:=least) (x:=g.getD i []) (fr:=pkF g i (pkN g B least k i).1) (by unfold Nd;omega) k2 (qnY hg i) (fun _=>qkG hg _ _) ((pkA g B least k i).1++pkH B (pkN g B least k i).1) (R++T) hE
  simp_all
theorem qzR {least:Int}(h:hcE B least k=0)(hr:(r:Int)≤B):hcE (r:Int) least k=0:=by
 grind [hcE,hcB]
theorem qyP (hF:2000000≤F){A:List (qDU)}{fr H:qDU}{i k:Nat}{least:Int}(hA:A.length=i)(hi:i≤100)(hx:gkc x=0)(hfr:gkc fr=0)(hh:hcE (r:Int) least (k:Int)=0)(hH:Bit H)(hHl:H.length≤100) :
  qbF F A x (r:Int) least (k:Int) (H.length:Int) (pk H) fr=some (if (H++enc (i:Int) x fr (r:Int) least k).length≤8192 then ((r:Int),((H++enc (i:Int) x fr (r:Int) least k).length:Int),pk (H++enc (i:Int) x fr (r:Int) least k),true) else (0,0,[],false)):=by
 unfold qbF
 rw[qt5 hF,hA]
 simp only[qBb]
 have hE:swE (i:Int) x fr (r:Int) least (k:Int)=0:=qAj hh (by unfold Nd;omega) hx (fun _=>hfr)
 rw[qBk]
 by_cases h1:(enc (i:Int) x fr (r:Int) least k).length≤8192
 ·have hs:=qA1 hE (by simp_all)
  rw[qBh] at hs
  grind [zj,qnJ,qic,qsf,qlt,qhb]
 grind [sw]
theorem qyO (hF:2000000≤F)(hg:Gr g){least:Int}{k i:Nat}(hh:hcE B least (k:Int)=0)(hi:i≤g.length)(hr:r≤min B.toNat i) :
  qfN F (g.take i) (g.getD i []) (r:Int) B least (k:Int)=some (if (pkW g B least k i r).length≤8192 then ((r:Int),((pkW g B least k i r).length:Int),pk (pkW g B least k i r),true) else (0,0,[],false)):=by
 have hgl:=hg.1
 have hti:(g.take i).length=i:=by simp_all
 obtain ⟨k1,-,-⟩:=qeK hh
 have hh':hcE (r:Int) least (k:Int)=0:=qzR hh (by omega)
 have hj:∀ H:qDU,Bit H→H.length≤100→qbE F (g.take i) (g.getD i []) (r:Int) least (k:Int) (H.length:Int) (pk H)=some (if (H++enc (i:Int) (g.getD i []) (pkF g i r) (r:Int) least k).length≤8192 then ((r:Int),((H++enc (i:Int) (g.getD i []) (pkF g i r) (r:Int) least k).length:Int),pk (H++enc (i:Int) (g.getD i []) (pkF g i r) (r:Int) least k),true) else (0,0,[],false)):=by
  intro H hH hHl
  unfold qbE
  grind [zV,qo,pkF,qyP,qnY,qkG]
 unfold qfN pkW pkH
 by_cases hB:0<B
 ·have hga:=qy6 (n:=r) (by omega)
  rw[if_pos (by grind),if_pos hB,vz (by omega),qkk (by omega) (by omega)]
  grind [qiB]
 ·rw[if_neg (by grind),if_neg hB]
  exact hj [] (by intro z hz;grind) (by simp)
def bst (f:Nat→qDU)(j:Nat):Bool×Int×Int×qDU:=if j=0 then (false,0,0,[]) else if (bwy f (j-1)).2.length≤8192 then (true,((bwy f (j-1)).1:Int),((bwy f (j-1)).2.length:Int),pk (bwy f (j-1)).2) else (false,0,0,[])
theorem quD {F:Nat}(hF:2000000≤F){g:List (qDU)}(hg:Gr g){B least:Int}{k i:Nat}(hh:hcE B least (k:Int)=0)(hi:i≤g.length):∀ (n j:Nat),min B.toNat i+1<n+j→j≤min B.toNat i+1 →
  vq F (g.take i) (g.getD i []) B least (k:Int) n ((bst (pkW g B least k i) j).1,(j:Int),(bst (pkW g B least k i) j).2.1,(bst (pkW g B least k i) j).2.2.1,(bst (pkW g B least k i) j).2.2.2)=some (if (pkN g B least k i).2.length≤8192 then (((pkN g B least k i).1:Int),((pkN g B least k i).2.length:Int),pk (pkN g B least k i).2,true) else (0,0,[],false))
 | 0,_,_,_=>by omega
 | n+1,j,h,hj=>by
  have hgl:=hg.1
  have hti:(g.take i).length=i:=by simp_all
  obtain ⟨k1,-,-⟩:=qeK hh
  show qeB F (g.take i) (g.getD i []) B least (k:Int) (vq F (g.take i) (g.getD i []) B least (k:Int) n) (bst (pkW g B least k i) j).1 (j:Int) (bst (pkW g B least k i) j).2.1 (bst (pkW g B least k i) j).2.2.1 (bst (pkW g B least k i) j).2.2.2=_
  unfold qeB
  have hmin:imin B ((g.take i).length:Int)=((min B.toNat i:Nat):Int):=by
   grind [imin]
  rw[hmin,zj (by omega) (by omega)]
  by_cases hlt:j<min B.toNat i+1
  ·rw[if_pos (by grind),qyO hF hg hh hi (by omega)]
   simp only[qBb]
   have hrec:=quD hF hg hh hi n (j+1) (by omega) (by omega)
   have hnew:(pkW g B least k i j).length≤8192→bwy (pkW g B least k i) j=(j,pkW g B least k i j)→vp F (vq F (g.take i) (g.getD i []) B least (k:Int) n) (j:Int) true (j:Int) ((pkW g B least k i j).length:Int) (pk (pkW g B least k i j))=some (if (pkN g B least k i).2.length≤8192 then (((pkN g B least k i).1:Int),((pkN g B least k i).2.length:Int),pk (pkN g B least k i).2,true) else (0,0,[],false)):=by
    grind [vp,qs,bst]
   have hold:bst (pkW g B least k i) (j+1)=bst (pkW g B least k i) j→vp F (vq F (g.take i) (g.getD i []) B least (k:Int) n) (j:Int) (bst (pkW g B least k i) j).1 (bst (pkW g B least k i) j).2.1 (bst (pkW g B least k i) j).2.2.1 (bst (pkW g B least k i) j).2.2.2=some (if (pkN g B least k i).2.length≤8192 then (((pkN g B least k i).1:Int),((pkN g B least k i).2.length:Int),pk (pkN g B least k i).2,true) else (0,0,[],false)):=by
    grind [vp,qs]
   unfold qcn
   by_cases hl:(pkW g B least k i j).length≤8192
   ·rw[if_pos hl]
    simp only[if_true]
    by_cases h0:j=0
    ·subst h0
     rw[if_pos (by rfl)]
     exact hnew hl rfl
    ·obtain ⟨q,rfl⟩:∃ q,j=q+1:=⟨j-1,by omega⟩
     grind [bwy,bst]
   ·rw[if_neg hl]
    simp only[qBq,if_false]
    refine hold ?_
    unfold bst
    rw[if_neg (by omega),qCO]
    by_cases h0:j=0
    ·subst h0
     rw[if_pos rfl,bwy,if_neg hl]
    ·obtain ⟨q,rfl⟩:∃ q,j=q+1:=⟨j-1,by omega⟩
     grind [bwy]
  grind [qfp,bst,pkN]
theorem qxq (hF:2000000≤F)(hg:Gr g){least:Int}{k i:Nat}(hh:hcE B least (k:Int)=0)(hi:i≤g.length) :
  qhr F (g.take i) (g.getD i []) B least (k:Int)=some (if (pkN g B least k i).2.length≤8192 then (((pkN g B least k i).1:Int),((pkN g B least k i).2.length:Int),pk (pkN g B least k i).2,true) else (0,0,[],false)):=by
 have hgl:=hg.1
 have:=quD hF hg hh hi F 0 (by omega) (qBC _)
 exact this
theorem qx7 {least:Int}{k i:Nat}:Bit (pkW g B least k i r):=by
 grind [pkW,pkH,vl,qsf,qiB]
theorem qoe {least:Int}{k i:Nat}:Bit (pkN g B least k i).2:=by
 grind [qlx,qx7]
theorem qgY {g:List (qDU)}{B least:Int}{k:Nat}:∀ n:Nat,Bit (pkA g B least k n).1
 | 0=>by intro z hz;simp[pkA] at hz
 | n+1=>by unfold pkA;exact vl (qgY n) qoe
theorem qpz {i:Nat}(h:i<g.length):idx g (i:Int)=some (g.getD i []):=by
 grind [qo]
theorem qsH {F:Nat}(hF:2000000≤F){g:List (qDU)}(hg:Gr g){N B least:Int}{k:Nat}(hh:hcE B least (k:Int)=0):∀ (j i:Nat),g.length<j+i→i≤g.length→(pkA g B least k i).1.length≤8192 →
  ∃ z,kO F N B least (k:Int) g j ((i:Int),((pkA g B least k i).1.length:Int),pk (pkA g B least k i).1,(pkA g B least k i).2.1,(pkA g B least k i).2.2)=some z∧z.1=decide ((pkA g B least k g.length).1.length≤8192) ∧
   (z.1=true→z=(true,N,B,least,(k:Int),((pkA g B least k g.length).1.length:Int),pk (pkA g B least k g.length).1,(pkA g B least k g.length).2.1,(pkA g B least k g.length).2.2))
 | 0,_,_,_,_=>by omega
 | j+1,i,h,hi,hA=>by
  have hgl:=hg.1
  show ∃ z,qaw F N B least (k:Int) g (kO F N B least (k:Int) g j) (i:Int) ((pkA g B least k i).1.length:Int) (pk (pkA g B least k i).1) (pkA g B least k i).2.1 (pkA g B least k i).2.2=some z∧_
  unfold qaw
  by_cases hlt:i<g.length
  ·have e0:sub g 0 (i:Int)=some (g.take i):=by
    have:=qkp (l:=g) (i:=0) (j:=i) (by omega) hi
    simp_all
   have hstep:(pkA g B least k (i+1)).1.length=(pkA g B least k i).1.length+(pkN g B least k i).2.length:=by rw[pkA,qBk]
   have hmono:=qhE (g:=g) (B:=B) (least:=least) (k:=k) (show i+1≤g.length from hlt)
   rw[if_pos (by simp_all),qpz hlt,e0]
   simp only[qBb]
   rw[qxq hF hg hh hi]
   simp only[qBb]
   unfold qay
   by_cases h1:(pkN g B least k i).2.length≤8192
   ·rw[if_pos h1]
    simp only[qB5,qBq,if_false]
    rw[zj (by omega) (by omega)]
    unfold yo
    by_cases h2:(pkA g B least k i).1.length+(pkN g B least k i).2.length≤8192
    ·rw[if_neg (by grind)]
     have hl:=qpK (g:=g) (B:=B) (least:=least) (k:=k) i
     rw[zU (by grind)]
     simp only[qBb]
     rw[zU (by grind)]
     simp only[qBb]
     unfold qaz
     rw[qnJ (by omega) (qic (qgY i)) (qic qoe) (qlt hA) (qlt h1),qhb (qgY i),qhb qoe]
     simp only[qBb]
     have:=qsH hF hg (N:=N) hh j (i+1) (by omega) (by omega) (by omega)
     rw[qs (by omega),← hstep]
     exact this
    ·rw[if_pos (by grind)]
     grind
   ·rw[if_neg h1]
    simp only[qDn,if_true]
    unfold yo
    grind
  ·rw[if_neg (by simp_all)]
   have:i=g.length:=by omega
   subst this
   unfold qax
   simp_all
theorem qmY (hF:2000000≤F){least:Int} :
  ∃ z1 z2 z3 z4 z5 z6 z7 z8,qb6 F g B least k=some (z1,z2,z3,z4,z5,z6,z7,z8,pkE g B least k) ∧
   (pkE g B least k=0→(z1,z2,z3,z4,z5,z6,z7,z8)=((g.length:Int),B,least,k,((pkA g B least k.toNat g.length).1.length:Int),pk (pkA g B least k.toNat g.length).1,(pkA g B least k.toNat g.length).2.1,(pkA g B least k.toNat g.length).2.2)):=by
 unfold qb6
 rw[jL (by omega)]
 simp only[qBb]
 by_cases h1:gchk g=0
 ·rw[if_pos (by grind),qe0]
  simp only[qBb]
  unfold j5
  by_cases h2:hcE B least k=0
  ·rw[if_pos (by grind)]
   obtain ⟨_,_,k',rfl,_,_⟩:=qeK h2
   have hg:=jA.1 h1
   have hgl:=hg.1
   obtain ⟨z,hz,hz1,hz2⟩:=qsH hF hg (N:=(g.length:Int)) h2 F 0 (by omega) (qBC _) (by simp[pkA])
   have hz':qcv F (g.length:Int) B least (k':Int) 0 [] [] [] g=some z:=by
    have e:pk ([]:qDU)=[]:=by rfl
    simp only[pkA,qCD,e] at hz
    exact hz
   rw[hz']
   simp only[qBb]
   unfold vB vA
   rw[qBh]
   by_cases h3:(pkA g B least k' g.length).1.length≤8192
   ·rw[decide_eq_true h3] at hz1
    have:=hz2 hz1
    have hE:pkE g B least (k':Int)=0:=qz3 h1 h2 (by simp_all)
    grind
   ·rw[decide_eq_false h3] at hz1
    have hE:pkE g B least (k':Int)=8:=by
     grind [pkE]
    simp_all
  ·have hE:pkE g B least k=hcE B least k:=by
    grind [pkE]
   rw[if_neg (by grind),hE]
   unfold vB vA
   simp_all
 ·have hE:pkE g B least k=gchk g:=by
   grind [pkE]
  rw[if_neg (by grind),hE]
  unfold j5 vB vA
  simp_all
def pwr (g:List (qDU))(B least k:Int):Int×Int×Int×Int×Int×qDU×Int :=
 if pkE g B least k≠0 then (0,0,0,0,0,[],pkE g B least k) else ((g.length:Int),B,least,k,((pkA g B least k.toNat g.length).1.length:Int),pk (pkA g B least k.toNat g.length).1,0)
def ptl (g:List (qDU))(B least k:Int):qDU×qDU×Int :=
 if pkE g B least k≠0 then ([],[],pkE g B least k) else ((pkA g B least k.toNat g.length).2.1,(pkA g B least k.toNat g.length).2.2,0)
theorem qm0 (hF:2000000≤F){least:Int}:qbS F g B least k=some (pwr g B least k):=by
 obtain ⟨z1,z2,z3,z4,z5,z6,z7,z8,hz,hz2⟩:=qmY hF (g:=g) (B:=B) (least:=least) (k:=k)
 unfold qbS pwr
 grind
theorem qv4 (hF:2000000≤F){least:Int}:qeg F g B least k=some (ptl g B least k):=by
 obtain ⟨z1,z2,z3,z4,z5,z6,z7,z8,hz,hz2⟩:=qmY hF (g:=g) (B:=B) (least:=least) (k:=k)
 unfold qeg ptl
 grind
theorem qvU {F:Nat}{xs ys:qDU}(he:xs.length=ys.length)(hm:xs.length≤1000000):∀ (k i:Nat),xs.length<k+i→i≤xs.length→kz F xs ys k (i:Int)=some (decide (xs.drop i=ys.drop i))
 | 0,_,_,_=>by omega
 | k+1,i,h,hi=>by
  show ky F xs ys (kz F xs ys k) (i:Int)=_
  unfold ky
  by_cases hlt:i<xs.length
  ·have hlt':i<ys.length:=by omega
   rw[if_pos (by simp_all),qo,qBc hlt,qo,qBc hlt']
   simp only[qBb]
   rw[qBj hlt,qBj hlt']
   by_cases hc:xs[i]=ys[i]
   ·rw[if_neg (by grind),qs (by omega),qvU he hm k (i+1) (by omega) (by omega)]
    congr 1
    grind
   grind [List.cons.inj]
  ·rw[if_neg (by simp_all),qBm (by omega),qBm (by omega)]
   rfl
theorem peqb {xs ys:qDU}(hF:xs.length<F)(hm:xs.length≤1000000):q8 F xs ys=some (decide (xs=ys)):=by
 unfold q8
 by_cases h:xs.length=ys.length
 ·rw[if_neg (by grind)]
  have:=qvU (F:=F) h hm F 0 (by omega) (qBC _)
  simp_all
 ·rw[if_pos (by grind),decide_eq_false (fun e=>h (by rw[e]))]
theorem qtS {l:qDU}(h:rgam l p most=none):(fg l p).2.2≠0∨most<(fg l p).1:=by
 grind [rgam]
theorem qsO {l:qDU}{x:Int×Nat}(h:rgam l p most=some x):fg l p=(x.1,(x.2:Int),0)∧x.1≤most:=by
 grind [rgam,qu8]
theorem qvX {l:qDU}(_hB:0≤B){node:Nat}(hp:p≤l.length){o:Int×Nat}(h:pkO l B node p=some o):0≤o.1∧o.1≤min B (node:Int)∧o.2≤l.length:=by
 unfold pkO at h
 split at h
 ·grind
 ·have:=qaL h
  omega
theorem qsF (hF:20000≤F){l:qDU}(hl:Bit l)(hm:l.length≤8192){least:Int}(hB:0≤B∧B≤7){node:Nat}(hn:node≤1000)(hp:p≤l.length) :
  qfo F N B least k (l.length:Int) (pk l) (p:Int) (node:Int)=some (match pkO l B node p with | none=>(0,0,false) | some o=>(o.1,(o.2:Int),true)):=by
 unfold qfo pkO
 by_cases h0:B=0
 ·rw[if_pos (by simpa using h0),if_pos h0]
 ·rw[if_neg (by simpa using h0),if_neg h0,qje hF hl hm hp]
  simp only[qBb]
  have hmin:imin B (node:Int)=min B (node:Int):=by unfold imin;split <;> omega
  have hcv:iconv .u64 (min B (node:Int))=min B (node:Int):=by
   obtain ⟨q,hq⟩:=qBf (a:=min B (node:Int)) (by omega)
   rw[hq];exact vz (by omega)
  unfold qdX
  rw[hmin,hcv]
  cases hr:rgam l p (min B (node:Int)) with
  | none =>
   rcases qtS hr with h1 | h1
   ·rw[if_pos (by simpa using h1),if_pos rfl]
   ·by_cases h2:(fg l p).2.2=0
    ·rw[if_neg (by simp[h2]),if_pos (by simpa using h1)]
    ·rw[if_pos (by simpa using h2),if_pos rfl]
  | some x =>
   obtain ⟨h1,h2⟩:=qsO hr
   have hok:=qaL hr
   rw[h1]
   simp only
   rw[if_neg (by simp),if_neg (by simp;omega)]
   have e:iconv .i64 x.1=x.1:=yk (by omega) (by omega)
   rw[e]
theorem qpP {F k:Nat}(hF:2000000≤F){l:qDU}(hl:Bit l)(hm:l.length≤8192){B least:Int}(hh:hcE B least (k:Int)=0){n:Nat}(hn:n≤100):∀ (j p:Nat) (out:List (qDU)),n<j+out.length→out.length≤n→p≤l.length→(∀ x∈out,gkc x=0) →
  qaQ F (n:Int) B least (k:Int) (l.length:Int) (pk l) j (out,(p:Int),(out.length:Int))=some (match pkR l B least k (n-out.length) out p with | none=>([],false) | some r=>(r.1,decide (r.2=l.length)))
 | 0,_,_,_,_,_,_=>by omega
 | j+1,p,out,h,ho,hp,hg=>by
  obtain ⟨k1,k2,k',hk,k3,k4⟩:=qeK hh
  have hkk:k=k':=by omega
  subst hkk
  show qeC F (n:Int) B least (k:Int) (l.length:Int) (pk l) (qaQ F (n:Int) B least (k:Int) (l.length:Int) (pk l) j) out (p:Int) (out.length:Int)=_
  unfold qeC
  by_cases hlt:out.length<n
  ·rw[if_pos (by simp_all),qsF (by omega) hl hm k1 (by omega) hp,show n-out.length=(n-(out.length+1))+1 from by omega]
   simp only[qBb,pkR]
   cases hO:pkO l B out.length p with
   | none=>rfl
   | some o =>
    obtain ⟨o1,o2,o3⟩:=qvX k1.1 hp hO
    simp only[qB5,qBq,if_false,qBb]
    have hfr:gkc (pkF out out.length o.1.toNat)=0:=by
     unfold pkF
     split
     ·grind
     rfl
    have hstep:∀ fr:qDU,fr=pkF out out.length o.1.toNat→((qap F (l.length:Int) (pk l) (o.2:Int) (out.length:Int) fr o.1 least (k:Int)).bind fun x488=>(if ((x488.2.2:Int) != 0) then some (([]:List (qDU)),false) else ((app 2199023255552 out ([x488.1]:List (qDU))).bind fun x494=>qaP F (qaQ F (n:Int) B least (k:Int) (l.length:Int) (pk l) j) (out.length:Int) x494 x488.2.1)))=some (match (rdl l o.2 (out.length:Int) (pkF out out.length o.1.toNat) o.1 least k).bind fun r=>pkR l B least k (n-(out.length+1)) (out++[r.1]) r.2 with | none=>([],false) | some r=>(r.1,decide (r.2=l.length))):=by
     intro fr hfe
     subst hfe
     rw[qp2 hF k3 k4 hl hm (by unfold Nd;omega) o3 (fun _=>hfr) k2]
     simp only[qBb]
     cases hr:rdl l o.2 (out.length:Int) (pkF out out.length o.1.toNat) o.1 least k with
     | none=>rfl
     | some r =>
      obtain ⟨r1,r2,r3,r4,r5⟩:=qpV hl k3 hr
      simp only[qBb]
      rw[if_neg (by simp),zU (by grind)]
      simp only[qBb]
      unfold qaP
      have hl1:(out++[r.1]).length=out.length+1:=by simp
      have hrec:=qpP hF hl hm hh hn j r.2 (out++[r.1]) (by omega) (by omega) r5 (fun x hx=>by
       grind)
      grind [qs]
    grind [zV,qpz,pkF]
  ·rw[if_neg (by simp_all),show n-out.length=0 from by omega]
   grind [qeD,pkR,decide_eq_false]
def pcE (N B least k m:Int)(b:qDU):Int:=if N<0∨100<N then 3 else if hcE B least k≠0 then hcE B least k else chkOf m b
def prd (N B least k m:Int)(b:qDU):List (qDU)×Int :=
 if pcE N B least k m b≠0 then ([],pcE N B least k m b) else
 match pkR (bl b m.toNat) B least k.toNat N.toNat [] 0 with
 | none=>([],1)
 | some r=>if r.2=m.toNat∧pkE r.1 B least k=0∧pk (pkA r.1 B least k.toNat r.1.length).1=b then (r.1,0) else ([],1)
theorem qri {least m:Int}(hb:U8s b)(hm:I64 m)(lb:b.length≤9223372036854775807):qeP F N B least k m b=some (pcE N B least k m b):=by
 unfold qeP pcE
 by_cases h1:N<0∨100<N
 ·simp_all
 ·rw[if_neg (by grind),if_neg h1,qe0]
  simp only[qBb]
  by_cases h2:hcE B least k=0
  ·rw[if_neg (by grind),if_neg (by omega),qk4 hb hm.1 hm.2 lb]
   rfl
  simp_all
theorem qvT {least m:Int}(hb:U8s b)(h:pcE N B least k m b=0):∃ (n:Nat) (l:qDU),N=(n:Int)∧n≤100∧hcE B least k=0∧Bit l∧l.length≤8192∧m=(l.length:Int)∧b=pk l:=by
 unfold pcE at h
 by_cases h1:N<0∨100<N
 ·omega
 ·rw[if_neg h1] at h
  by_cases h2:hcE B least k=0
  ·rw[if_neg (by omega)] at h
   rcases qk5 hb (n:=m) with h3 | ⟨l,hl,hm,e1,e2⟩
   ·omega
   ·exact ⟨N.toNat,l,by omega,by omega,h2,hl,hm,e1,e2⟩
  omega
theorem qv3 (hF:2000000≤F){least m:Int}(hb:U8s b)(hm:I64 m)(lb:b.length≤9223372036854775807):qfM F N B least k m b=some (prd N B least k m b):=by
 unfold qfM prd
 rw[qri hb hm lb]
 simp only[qBb]
 by_cases h:pcE N B least k m b=0
 ·rw[if_neg (by grind),if_neg (by omega)]
  obtain ⟨n,l,rfl,hn,hh,hl,hlm,rfl,rfl⟩:=qvT hb h
  obtain ⟨k1,k2,k',rfl,k3,k4⟩:=qeK hh
  have hL:=qpP (F:=F) hF hl hlm hh hn F 0 [] (by omega) (qBC _) (qBC _) (by simp)
  have hL':qgM F (n:Int) B least (k':Int) (l.length:Int) (pk l)=_:=hL
  rw[hL']
  simp only[qBb,qCD,Nat.sub_zero,qBh,qhb hl]
  cases hr:pkR l B least k' n [] 0 with
  | none=>rfl
  | some r =>
   simp only
   by_cases hp:r.2=l.length
   ·rw[decide_eq_true hp,if_neg (by simp),qm0 hF]
    simp only[qBb]
    unfold pwr qc2
    by_cases hE:pkE r.1 B least (k':Int)=0
    ·rw[if_neg (by grind)]
     simp only[qBh]
     obtain ⟨_,_,hA⟩:=qiF hE
     rw[qBh] at hA
     grind [peqb,pk]
    simp_all
   simp_all
 simp_all
theorem qwh {l:qDU}(hl:Bit l){x:Int×Nat}(h:rgam l p most=some x):x.2=p+(ga x.1.toNat).length:=by
 have hf:=(qsO h).1
 unfold fg at hf
 cases hz:fz (l.drop p) with
 | none=>simp_all
 | some k =>
  rw[hz] at hf
  simp only at hf
  unfold numOf at hf
  by_cases h1:64≤k
  ·simp_all
  ·rw[if_neg h1] at hf
   by_cases h2:l.length<p+k+1+k
   ·simp_all
   ·rw[if_neg h2] at hf
    by_cases h3:1099511627776<bv ((l.drop (p+k+1)).take k)+2^k-1
    ·simp_all
    ·rw[if_neg h3] at hf
     simp only[qDu,and_true] at hf
     have hb:=qr3 (qi6 (qhu hl (p+k+1)) k)
     grind [qtL,qnX]
theorem qx6 {l:qDU}(hl:Bit l)(hB:0≤B){node:Nat}{o:Int×Nat}(h:pkO l B node p=some o):o.2=p+(pkH B o.1.toNat).length:=by
 grind [pkO,pkH,qwh]
theorem qsA {i:Nat}(h:i≤g.length)(hr:r≤i):pkF (g++[x]) i r=pkF g i r:=by
 grind [pkF]
theorem qx5 {least:Int}{k i:Nat}(h:i<g.length):pkN (g++[x]) B least k i=pkN g B least k i:=by
 grind [pkN,qmB,pkW,qsA]
theorem qsz {g:List (qDU)}{x:qDU}{B least:Int}{k:Nat}:∀ {i:Nat},i≤g.length→pkA (g++[x]) B least k i=pkA g B least k i
 | 0,_=>rfl
 | i+1,h=>by
  unfold pkA
  rw[qsz (i:=i) (by omega),qx5 (by omega)]
theorem qpM {l:qDU}(hl:Bit l){B least:Int}{k:Nat}(hB:0≤B)(hk:1≤k):∀ (m p:Nat) (out:List (qDU)) (r:List (qDU)×Nat),pkR l B least k m out p=some r→p≤l.length→(pkA out B least k out.length).1.length≤p →
  r.1.length=out.length+m∧(pkA r.1 B least k r.1.length).1.length≤r.2
 | 0,p,out,r,h,_,hA=>by
  simp only[pkR,qBl] at h
  grind
 | m+1,p,out,r,h,hp,hA=>by
  unfold pkR at h
  rw[qBK] at h
  obtain ⟨o,ho,h⟩:=h
  rw[qBK] at h
  obtain ⟨d,hd,h⟩:=h
  obtain ⟨o1,o2,o3⟩:=qvX hB hp ho
  have hol:=qx6 hl hB ho
  obtain ⟨d1,d2,d3,d4,d5⟩:=qpV hl hk hd
  have hn1:(out++[d.1]).length=out.length+1:=by simp
  have hmin:=qr4 (pkW (out++[d.1]) B least k out.length) (n:=min B.toNat out.length) (r:=o.1.toNat) (by omega)
  have hW:(pkW (out++[d.1]) B least k out.length o.1.toNat).length=(pkH B o.1.toNat).length+(enc (out.length:Int) d.1 (pkF out out.length o.1.toNat) o.1 least k).length:=by
   unfold pkW
   rw[qBk,qsA (qBo _) (by omega),show ((o.1.toNat:Nat):Int)=o.1 from by omega]
   simp
  have hrec:=qpM hl hB hk m d.2 (out++[d.1]) r h d5 (by
   rw[hn1,pkA,qBk,qsz (qBo _)]
   unfold pkN
   omega)
  omega
theorem qz6 {least:Int}(h:pkE g B least k=0):prd (g.length:Int) B least k ((pkA g B least k.toNat g.length).1.length:Int) (pk (pkA g B least k.toNat g.length).1)=(g,0):=by
 obtain ⟨h1,h2,h3⟩:=qiF h
 have hg:=jA.1 h1
 have hgl:=hg.1
 obtain ⟨k1,k2,k',rfl,k3,k4⟩:=qeK h2
 rw[qBh] at h3 ⊢
 have hE:pcE (g.length:Int) B least (k':Int) ((pkA g B least k' g.length).1.length:Int) (pk (pkA g B least k' g.length).1)=0:=by
  grind [pcE,qk6]
 have hr:=qof hg h2 h3 [] g.length 0 (by omega)
 have hr':pkR (pkA g B least k' g.length).1 B least k' g.length [] 0=some (g,(pkA g B least k' g.length).1.length):=by
  rw[qBR] at hr
  exact hr
 unfold prd
 rw[if_neg (by omega)]
 simp only[qBh]
 rw[qhb (qgY _),hr']
 simp_all
theorem qz7 {least m:Int}(hb:U8s b)(h:(prd N B least k m b).2=0):∃ g,prd N B least k m b=(g,0)∧pkE g B least k=0∧N=(g.length:Int)∧m=((pkA g B least k.toNat g.length).1.length:Int)∧b=pk (pkA g B least k.toNat g.length).1:=by
 have h0:=h
 unfold prd at h
 by_cases hE:pcE N B least k m b=0
 ·rw[if_neg (by omega)] at h
  obtain ⟨n,l,rfl,hn,hh,hl,hlm,rfl,rfl⟩:=qvT hb hE
  obtain ⟨k1,k2,k',rfl,k3,k4⟩:=qeK hh
  simp only[qBh,qhb hl] at h
  cases hr:pkR l B least k' n [] 0 with
  | none=>simp_all
  | some r =>
   rw[hr] at h
   simp only at h
   split at h
   ·rename_i hc
    obtain ⟨c1,c2,c3⟩:=hc
    obtain ⟨g1,g2,g3⟩:=qiF c2
    rw[qBh] at g3
    have hg:=jA.1 g1
    obtain ⟨b1,b2⟩:=qpM hl k1.1 k3 n 0 [] r hr (qBC _) (by simp[pkA])
    rw[qCD,qB0] at b1
    have hq:l=(pkA r.1 B least k' r.1.length).1++l.drop (pkA r.1 B least k' r.1.length).1.length:=by
     have e1:l.take (pkA r.1 B least k' r.1.length).1.length=(pkA r.1 B least k' r.1.length).1:=by
      grind [qxt,qhb,qgY]
     grind [List.take_append_drop]
    have hr2:=qof hg hh g3 (l.drop (pkA r.1 B least k' r.1.length).1.length) r.1.length 0 (by omega)
    grind [pkA,prd,qhb]
   omega
 simp_all
def plc (bit:Int):qDU→Nat→Option Nat
 | [],_=>none
 | x::l,i=>if x=bit then (match i with | 0=>some 0 | i+1=>(plc bit l i).map (·+1)) else (plc bit l i).map (·+1)
theorem qlz (bit x:Int)(l:qDU)(i:Nat):plc bit (x::l) i=if x=bit then (match i with | 0=>some 0 | i+1=>(plc bit l i).map (·+1)) else (plc bit l i).map (·+1):=rfl
theorem qog {F:Nat}{l:qDU}(hl:Bit l)(hm:l.length≤10000)(bit:Int):∀ (k j i:Nat),l.length<k+j→j≤l.length→i<9223372036854775808 →
  (∃ s,plc bit (l.drop j) i=none∧zr F (fun (x31:Int) (x37:Int)=>zd F x31 x37) (l.length:Int) (pk l) bit k ((j:Int),(i:Int))=some (.inl s)) ∨
  (∃ a q,plc bit (l.drop j) i=some a∧zr F (fun (x31:Int) (x37:Int)=>zd F x31 x37) (l.length:Int) (pk l) bit k ((j:Int),(i:Int))=some (.inr (((j+a:Nat):Int),q)))
 | 0,_,_,_,_,_=>by omega
 | k+1,j,i,h,hj,hi=>by
  have e:zr F (fun (x31:Int) (x37:Int)=>zd F x31 x37) (l.length:Int) (pk l) bit (k+1) ((j:Int),(i:Int)) =
   yU F (fun (x31:Int) (x37:Int)=>zd F x31 x37) (l.length:Int) (pk l) bit (zr F (fun (x31:Int) (x37:Int)=>zd F x31 x37) (l.length:Int) (pk l) bit k) (j:Int) (i:Int):=rfl
  rw[e]
  unfold yU
  by_cases hlt:j<l.length
  ·rw[if_pos (by simp_all),qpc hl (by omega) hlt,qBj hlt,qlz]
   simp only[qBb]
   by_cases h1:l[j]=bit
   ·rw[if_pos h1,if_pos (by grind)]
    cases i with
    | zero =>
     right
     exact ⟨0,0,rfl,rfl⟩
    | succ i =>
     have:zd F ((i+1:Nat):Int) (j:Int)=some (.inl (i:Int)):=by
      unfold zd
      rw[if_neg (by grind),qd5 (by omega) (by omega),qCO]
     rw[this]
     simp only[qBb,Sum.elim_inl,yb]
     rw[qs (by omega)]
     rcases qog (F:=F) hl hm bit k (j+1) i (by omega) (by omega) (by omega) with ⟨s,h2,h3⟩ | ⟨a,q,h2,h3⟩
     ·simp_all
     ·right;exact ⟨a+1,q,by simp_all,by grind⟩
   ·rw[if_neg h1,if_neg (by grind)]
    simp only[yb]
    rw[qs (by omega)]
    rcases qog (F:=F) hl hm bit k (j+1) i (by omega) (by omega) hi with ⟨s,h2,h3⟩ | ⟨a,q,h2,h3⟩
    ·simp_all
    ·right;exact ⟨a+1,q,by simp_all,by grind⟩
  ·rw[if_neg (by simp_all),qBm (by omega)]
   left;exact ⟨_,rfl,rfl⟩
theorem qly (hF:20000≤F){l:qDU}(hl:Bit l)(hm:l.length≤10000){bit:Int}{i:Nat}(hi:i<9223372036854775808) :
  qaD F (l.length:Int) (pk l) bit (i:Int)=some (match plc bit l i with | none=>-1 | some a=>(a:Int)):=by
 unfold qaD
 simp only[qdZ,qBb,qcq]
 rcases qog (F:=F) hl hm bit F 0 i (by omega) (by omega) hi with ⟨s,h2,h3⟩ | ⟨a,q,h2,h3⟩
 ·rw[qBL] at h2
  rw[show ((0:Nat):Int)=0 from rfl] at h3
  rw[h3,h2];rfl
 ·rw[qBL] at h2
  rw[show ((0:Nat):Int)=0 from rfl] at h3
  rw[h3,h2,qB0];rfl
theorem qpe:Bit []:=by intro x hx;grind
theorem qq3 {n m:Nat}(hm:m≤62)(h:n*2^m<9223372036854775808):ishl .i64 (n:Int) (m:Int)=((n*2^m:Nat):Int):=by
 unfold ishl
 have h1:min ((m:Int).toNat) (IntKind.bits .i64)=m:=by grind [IntKind.bits]
 grind [yk]
theorem qq5 {n m:Nat}(hm:m≤62):ishr .i64 (n:Int) (m:Int)=((n/2^m:Nat):Int):=by
 grind [qhN,IntKind.bits]
theorem qzS {n m:Nat}(hm:m≤62)(hn:n<9223372036854775808):iand .i64 (n:Int) ((2^m-1:Nat):Int)=((n%2^m:Nat):Int):=by
 unfold iand
 have h1:(qBM (IntKind.bits .i64) (n:Int))=qBB 64 n:=by rfl
 have h2:(qBM (IntKind.bits .i64) ((2^m-1:Nat):Int))=qBB 64 (2^m-1):=by rfl
 have h3:2^m≤2^62:=qBP (by decide) hm
 rw[show (2:Nat)^62=4611686018427387904 from by decide] at h3
 rw[h1,h2]
 have h4:(qBB 64 n &&& qBB 64 (2^m-1)).toNat=n%2^m:=by
  grind [Nat.and_two_pow_sub_one_eq_mod]
 show IntKind.wrap .i64 ((qBB 64 n &&& qBB 64 (2^m-1)).toNat:Int)=_
 rw[h4]
 have:=Nat.mod_le n (2^m)
 grind [yk]
theorem qn3 {a b:Nat}(h:a*b<9223372036854775808):imul .i64 (a:Int) (b:Int)=((a*b:Nat):Int):=by
 grind [imul,yk]
def wd (n t:Nat):Nat:=if n=0 then 0 else len ((t+1)/n)-1
theorem qyT {n t w:Nat}(hn:n≠0):n*2^(w+1)≤t+1↔w<wd n t:=by
 unfold wd
 rw[if_neg hn]
 have h1:=qgf (x:=(t+1)/n) (k:=w+1)
 have h2:=Nat.le_div_iff_mul_le (x:=2^(w+1)) (y:=t+1) (k:=n) (by omega)
 grind
theorem qqo {n t:Nat}(ht:t≤1048576):wd n t≤20:=by
 unfold wd
 split
 ·omega
 ·have h1:(t+1)/n≤t+1:=qCF _ _
  have h2:len ((t+1)/n)≤21:=qgf.2 (by omega)
  omega
theorem qth {F n t:Nat}(hn:n≤300)(ht:t≤1048576):∀ (k w:Nat),wd n t<k+w→w≤wd n t →
  qbP F (n:Int) (t:Int) k (w:Int)=some ((wd n t:Nat):Int)
 | 0,_,_,_=>by omega
 | k+1,w,h,hw=>by
  show qdA F (n:Int) (t:Int) (qbP F (n:Int) (t:Int) k) (w:Int)=_
  unfold qdA
  have h20:=qqo (n:=n) ht
  by_cases h0:n=0
  ·subst h0
   have:wd 0 t=0:=rfl
   rw[if_neg (by simp)]
   unfold j4
   rw[if_neg (by simp)]
   obtain rfl:w=0:=by omega
   rfl
  ·have hp:2^(w+1)≤2^21:=qBP (by decide) (by omega)
   have hm:n*2^(w+1)≤300*2^21:=qC5 hn hp
   rw[show (300:Nat)*2^21=629145600 from by decide] at hm
   have hc:decide ((0:Int)≤((w+1:Nat):Int))=true:=decide_eq_true (by omega)
   rw[if_pos (by grind),qs (by omega),hc]
   simp only[chk,if_true]
   rw[qq3 (by omega) (by omega),qs (by omega)]
   unfold j4
   have hs:=qyT (n:=n) (t:=t) (w:=w) h0
   by_cases hlt:w<wd n t
   ·rw[if_pos (by grind),qs (by omega)]
    exact qth hn ht k (w+1) (by omega) (by omega)
   ·rw[if_neg (by grind)]
    obtain rfl:w=wd n t:=by omega
    rfl
theorem qqq {n t:Nat}(hF:20000≤F)(hn:n≤300)(ht:t≤1048576):qcU F (n:Int) (t:Int)=some ((wd n t:Nat):Int):=by
 unfold qcU
 have:=qqo (n:=n) ht
 exact qth hn ht F 0 (by omega) (by omega)
def fk (t:Int):Int→qDU→Int
 | _,[]=>0
 | last,n::l=>if 0≤n∧n≤t then (if n<last then 4 else fk t n l) else 3
def fkc (l:qDU)(t:Int):Int:=if 0≤t∧t≤1048576 then (if 300<l.length then 2 else fk t 0 l) else 3
theorem qpq {F:Nat}{t:Int}{l:qDU}(hm:l.length≤300):∀ (k i:Nat) (last:Int),l.length<k+i→i≤l.length →
  qey F l t k (last,(i:Int))=some (fk t last (l.drop i))
 | 0,_,_,_,_=>by omega
 | k+1,i,last,h,hi=>by
  show qex F l t (qey F l t k) last (i:Int)=_
  unfold qex
  by_cases hlt:i<l.length
  ·rw[if_pos (by simp_all),qo,qBc hlt,qBj hlt,fk]
   simp only[qBb]
   by_cases h1:0≤l[i]∧l[i]≤t
   ·rw[if_pos h1,if_neg (by simp_all)]
    by_cases h2:l[i]<last
    ·simp_all
    ·rw[if_neg h2,if_neg (by grind),qs (by omega)]
     exact qpq hm k (i+1) _ (by omega) (by omega)
   grind
  ·rw[if_neg (by simp_all),qBm (by omega)]
   rfl
theorem qmK (hF:20000≤F){l:qDU}:qcP F l t=some (fkc l t):=by
 unfold qcP fkc
 by_cases h1:0≤t∧t≤1048576
 ·rw[if_pos h1,if_neg (by simp_all)]
  by_cases h:300<l.length
  ·grind
  ·rw[if_neg h,if_neg (by grind)]
   exact qpq (by omega) F 0 0 (by omega) (by omega)
 grind
def Up (t:Nat):Nat→List Nat→Prop
 | _,[]=>True
 | last,n::l=>last≤n∧n≤t∧Up t n l
def lc (l:List Nat):qDU:=l.map fun x:Nat=>(x:Int)
theorem qhz (l:List Nat):(lc l).length=l.length:=by simp[lc]
theorem qy2 {t:Nat}:∀ {l:qDU} {last:Nat},fk (t:Int) (last:Int) l=0↔∃ ns,l=lc ns∧Up t last ns
 | [],last=>by
  constructor
  ·intro _;exact ⟨[],rfl,trivial⟩
  ·intro _;rfl
 | n::l,last=>by
  unfold fk
  by_cases h1:0≤n∧n≤(t:Int)
  ·rw[if_pos h1]
   obtain ⟨n,rfl⟩:=qBf h1.1
   by_cases h2:(n:Int)<(last:Int)
   ·rw[if_pos h2]
    constructor
    ·omega
    ·rintro ⟨ns,e,hu⟩
     cases ns with
     | nil=>simp[lc] at e
     | cons m ns=>simp[lc] at e;have:=hu.1;omega
   ·rw[if_neg h2,qy2]
    constructor
    ·rintro ⟨ns,rfl,hu⟩;exact ⟨n::ns,rfl,by omega,by omega,hu⟩
    ·rintro ⟨ns,e,hu⟩
     cases ns with
     | nil=>simp[lc] at e
     | cons m ns =>
      simp[lc] at e
      obtain ⟨e1,rfl⟩:=e
      obtain rfl:n=m:=by omega
      exact ⟨ns,rfl,hu.2.2⟩
  ·rw[if_neg h1]
   constructor
   ·omega
   ·rintro ⟨ns,e,hu⟩
    cases ns with
    | nil=>simp[lc] at e
    | cons m ns =>
     simp[lc] at e
     have:=hu.2.1
     omega
theorem qjO {l:qDU}:fkc l t=0↔∃ (ns:List Nat) (k:Nat),t=k∧k≤1048576∧l=lc ns∧ns.length≤300∧Up k 0 ns:=by
 unfold fkc
 by_cases h1:0≤t∧t≤1048576
 ·rw[if_pos h1]
  obtain ⟨t,rfl⟩:=qBf h1.1
  by_cases h:300<l.length
  ·rw[if_pos h]
   constructor
   ·omega
   ·rintro ⟨ns,k,_,_,rfl,h3,_⟩;rw[qhz] at h;omega
  ·rw[if_neg h]
   have:=qy2 (t:=t) (l:=l) (last:=0)
   rw[show ((0:Nat):Int)=0 from rfl] at this
   rw[this]
   constructor
   ·rintro ⟨ns,rfl,hu⟩;exact ⟨ns,t,rfl,by omega,rfl,by rw[qhz] at h;omega,hu⟩
   grind
 omega
theorem qxe {t:Nat}:∀ {l:List Nat} {a:Nat},Up t a l→∀ x∈l,a≤x∧x≤t
 | [],_,_=>by simp
 | n::l,a,h=>by
  intro x hx
  rcases qBi.1 hx with rfl | hx
  ·exact ⟨h.1,h.2.1⟩
  ·have:=qxe h.2.2 x hx;have:=h.1;omega
def lo' (w:Nat)(l:List Nat):qDU:=l.flatMap fun x=>nb x w
theorem qhA (w x:Nat)(l:List Nat):lo' w (x::l)=nb x w++lo' w l:=rfl
theorem qsv (w:Nat):∀ l:List Nat,(lo' w l).length=l.length*w
 | []=>by simp[lo']
 | x::l=>by rw[qhA,qBk,qdl,qsv w l,qBA,qBX,qDR,qCJ]
theorem qkF (w:Nat):∀ l:List Nat,Bit (lo' w l)
 | []=>by intro x hx;simp[lo'] at hx
 | x::l=>by rw[qhA];exact vl (qlr _ _) (qkF w l)
def hp (w last:Nat):Nat→List Nat→qDU
 | a,[]=>qBd (last-a) 0
 | a,x::l=>qBd (x/2^w-a) 0++(1::hp w last (x/2^w) l)
theorem qlg (w last:Nat):∀ (a:Nat) (l:List Nat),Bit (hp w last a l)
 | a,[]=>qgR _
 | a,x::l=>by
  rw[hp]
  exact vl (qgR _) (by
   intro y hy
   rcases qBi.1 hy with rfl | hy
   ·omega
   ·exact qlg w last _ l y hy)
theorem qvn {w t:Nat}:∀ {a:Nat} {l:List Nat},Up t a l→(hp w (t/2^w+1) (a/2^w) l).length=l.length+(t/2^w+1-a/2^w)
 | a,[],_=>by simp[hp]
 | a,x::l,h=>by
  have h1:a/2^w≤x/2^w:=qCq h.1
  have h2:x/2^w≤t/2^w:=qCq h.2.1
  have:=qvn (w:=w) h.2.2
  grind [hp]
def loF (t:Nat)(l:List Nat):qDU:=lo' (wd l.length t) l
def hiF (t:Nat)(l:List Nat):qDU:=hp (wd l.length t) (t/2^wd l.length t+1) 0 l
theorem qgU (t:Nat)(l:List Nat):(loF t l).length=l.length*wd l.length t:=qsv _ _
theorem qji {t:Nat}{l:List Nat}(h:Up t 0 l):(hiF t l).length=l.length+(t/2^wd l.length t+1):=by
 have:=qvn (w:=wd l.length t) h
 rw[Nat.zero_div,Nat.sub_zero] at this
 exact this
def Fits (t:Nat)(l:List Nat):Prop:=l.length*wd l.length t≤8192∧l.length+(t/2^wd l.length t+1)≤8192
instance fitsDec (t:Nat) (l:List Nat):Decidable (Fits t l):=inferInstanceAs (Decidable (_∧_))
theorem qwi {F:Nat}(hF:20000≤F){to:Nat}(hto:to≤10000):∀ (k a:Nat) (l:qDU),to<k+a→a≤to→Bit l→l.length+(to-a)≤8192 →
  qa5 F (to:Int) k ((l.length:Int),pk l,(a:Int))=some (((l++qBd (to-a) 0).length:Int),pk (l++qBd (to-a) 0),(to:Int))
 | 0,_,_,_,_,_,_=>by omega
 | k+1,a,l,h,ha,hl,hm=>by
  show qa4 F (to:Int) (qa5 F (to:Int) k) (l.length:Int) (pk l) (a:Int)=_
  unfold qa4
  by_cases hlt:a<to
  ·have hadd:=qix (F:=F) (n:=0) (w:=1) (l:=l) (by decide) (by omega) hl (by omega) (by decide)
   rw[show ((0:Nat):Int)=0 from rfl,show ((1:Nat):Int)=1 from rfl,show nb 0 1=[0] from rfl] at hadd
   rw[if_pos (by simp_all),hadd]
   simp only[qBb]
   rw[qs (by omega),qwi hF hto k (a+1) (l++[0]) (by omega) (by omega) (vl hl (qgR 1)) (by grind)]
   have e:l++[0]++qBd (to-(a+1)) 0=l++qBd (to-a) 0:=by
    rw[qBn,show to-a=(to-(a+1))+1 from by omega,qCi];rfl
   rw[e]
  ·rw[if_neg (by simp_all),show to-a=0 from by omega]
   grind
theorem qsQ (hF:20000≤F){to a:Nat}{l:qDU}(ha:a≤to)(hto:to≤10000)(hl:Bit l)(hm:l.length+(to-a)≤8192) :
  vI F (l.length:Int) (pk l) (a:Int) (to:Int)=some (((l++qBd (to-a) 0).length:Int),pk (l++qBd (to-a) 0),(to:Int)):=by
 grind [vI,qwi]
def T8 (t:Nat)(l:List Nat)(e:Bool):Int×Int×Int×Int×qDU×Int×qDU×Bool :=
 ((l.length:Int),(t:Int),(wd l.length t:Int),((loF t l).length:Int),pk (loF t l),((hiF t l).length:Int),pk (hiF t l),e)
theorem qze {F w t:Nat}(hF:20000≤F)(hw:w≤20)(ht:t≤1048576){l:List Nat}(hlm:l.length≤300)(f1:l.length*w≤8192)(f2:l.length+(t/2^w+1)≤8192):∀ (k i:Nat) (q:Nat) (L H:qDU),l.length<k+i→i≤l.length→Up t q (l.drop i)→Bit L→Bit H→L.length+(l.length-i)*w≤8192→H.length+(l.length-i)+(t/2^w+1-q/2^w)≤8192→q≤t →
  qf5 F (lc l) (t:Int) (w:Int) k ((i:Int),(H.length:Int),pk H,((q/2^w:Nat):Int),(L.length:Int),pk L) =
   some ((l.length:Int),(t:Int),(w:Int),((L++lo' w (l.drop i)).length:Int),pk (L++lo' w (l.drop i)),((H++hp w (t/2^w+1) (q/2^w) (l.drop i)).length:Int),pk (H++hp w (t/2^w+1) (q/2^w) (l.drop i)),true)
 | 0,_,_,_,_,_,_,_,_,_,_,_,_=>by omega
 | k+1,i,q,L,H,h,hi,hu,hL,hH,hLm,hHm,hq=>by
  show qf3 F (lc l) (t:Int) (w:Int) (qf5 F (lc l) (t:Int) (w:Int) k) (i:Int) (H.length:Int) (pk H) ((q/2^w:Nat):Int) (L.length:Int) (pk L)=_
  unfold qf3
  have hqt:q/2^w≤t/2^w:=qCq hq
  by_cases hlt:i<l.length
  ·rw[qBj hlt] at hu ⊢
   have hx1:=hu.1;have hx2:=hu.2.1;have hx3:=hu.2.2
   have hg:(lc l)[i]?=some ((l[i]:Nat):Int):=by simp[lc,hlt]
   have hc:decide ((0:Int)≤(w:Int))=true:=decide_eq_true (by omega)
   have hp20:2^w≤2^20:=qBP (by decide) hw
   rw[show (2:Nat)^20=1048576 from by decide] at hp20
   have hp0:0<2^w:=Nat.pow_pos (by decide)
   have e1:ishl .i64 1 (w:Int)=((2^w:Nat):Int):=by
    have:=qq3 (n:=1) (m:=w) (by omega) (by omega)
    simp_all
   have hd1:q/2^w≤l[i]/2^w:=qCq hx1
   have hd2:l[i]/2^w≤t/2^w:=qCq hx2
   have hsplit:(l.length-i)*w=w+(l.length-(i+1))*w:=by
    rw[show l.length-i=(l.length-(i+1))+1 from by omega,qBX,qDR,qCJ]
   rw[qhz,if_pos (by simp_all),qo,hg]
   simp only[qBb]
   rw[hc]
   simp only[chk,if_true]
   have hmod:l[i]%2^w<18446744073709551616:=by omega
   rw[e1,qd5 (by omega) (by omega),qzS (by omega) (by omega),vz hmod,qix hmod (by omega) hL (by omega) (by omega),qvG (qBo _)]
   simp only[qBb]
   rw[qq5 (by omega),qsQ hF hd1 (by omega) hH (by omega)]
   simp only[qBb]
   have hadd:=qix (F:=F) (n:=1) (w:=1) (l:=H++qBd (l[i]/2^w-q/2^w) 0) (by decide) (by omega) (vl hH (qgR _)) (by grind) (by decide)
   rw[show ((1:Nat):Int)=1 from rfl,show nb 1 1=[1] from rfl] at hadd
   rw[hadd]
   simp only[qBb]
   rw[qs (by omega)]
   rw[qze hF hw ht hlm f1 f2 k (i+1) l[i] (L++nb l[i] w) (H++qBd (l[i]/2^w-q/2^w) 0++[1]) (by omega) (by omega) hx3 (vl hL (qlr _ _)) (vl (vl hH (qgR _)) qr0) (by grind [qdl]) (by grind) hx2]
   grind [hp,qhA]
  ·rw[qhz,if_neg (by simp_all),qBm (by omega)]
   unfold qf4
   rw[qq5 (by omega),qs (by omega),qsQ hF (by omega) (by omega) hH (by omega)]
   simp[lo',hp,qhz]
theorem qsj {t:Nat}(hF:20000≤F)(ht:t≤1048576){l:List Nat}(hlm:l.length≤300)(hu:Up t 0 l) :
  qfj F (lc l) (t:Int)=some (if Fits t l then T8 t l true else (0,0,0,0,[],0,[],false)):=by
 unfold qfj
 have hw:=qqo (n:=l.length) ht
 have hc:decide ((0:Int)≤((wd l.length t:Nat):Int))=true:=decide_eq_true (by omega)
 have hdt:t/2^wd l.length t≤t:=qCF _ _
 have hmul:l.length*wd l.length t≤300*20:=qC5 hlm hw
 rw[qhz,qqq hF hlm ht]
 simp only[qBb]
 rw[hc]
 simp only[chk,if_true]
 rw[qn3 (by omega),qq5 (by omega),qs (by omega),qb3 (by omega)]
 by_cases hf:Fits t l
 ·rw[if_neg (by have h1:=hf.1;have h2:=hf.2;grind),if_pos hf]
  have:=qze (F:=F) hF hw ht hlm hf.1 hf.2 F 0 0 [] [] (by omega) (by omega) (by simp_all) qpe qpe (by grind) (by simp;exact hf.2) (by omega)
  rw[qBL,qBy,qBy,Nat.zero_div] at this
  exact this
 ·rw[if_pos (by unfold Fits at hf;grind),if_neg hf]
def nl (l:qDU):List Nat:=l.map Int.toNat
theorem qvI (l:List Nat):nl (lc l)=l:=by
 induction l with
 | nil=>rfl
 | cons x l ih=>grind [nl,lc]
abbrev F8:=Int×Int×Int×Int×qDU×Int×qDU×Int
def fz8 (e:Int):F8:=(0,0,0,0,[],0,[],e)
def fo8 (t:Nat)(l:List Nat):F8:=((l.length:Int),(t:Int),(wd l.length t:Int),((loF t l).length:Int),pk (loF t l),((hiF t l).length:Int),pk (hiF t l),0)
def fw (l:qDU)(t:Int):F8:=if fkc l t≠0 then fz8 (fkc l t) else if Fits t.toNat (nl l) then fo8 t.toNat (nl l) else fz8 8
theorem qvc {l:qDU}(h:fkc l t≠0):fw l t=fz8 (fkc l t):=by grind [fw]
theorem qnV {l:List Nat}{t:Nat}(ht:t≤1048576)(hlm:l.length≤300)(hu:Up t 0 l):fkc (lc l) (t:Int)=0∧fw (lc l) (t:Int)=if Fits t l then fo8 t l else fz8 8:=by
 have h:fkc (lc l) (t:Int)=0:=qjO.2 ⟨l,t,rfl,ht,rfl,hlm,hu⟩
 grind [fw,qvI]
theorem qtG (hF:20000≤F){l:qDU}:qcO F l t=some (fw l t):=by
 unfold qcO
 rw[qmK hF]
 simp only[qBb]
 by_cases h:fkc l t=0
 ·obtain ⟨ns,k,rfl,hk,rfl,hm,hu⟩:=qjO.1 h
  rw[(qnV hk hm hu).2,h,if_neg (by simp),qsj hF hk hm hu]
  simp only[qBb]
  by_cases hf:Fits k ns
  ·rw[if_pos hf,if_pos hf];rfl
  ·rw[if_neg hf,if_neg hf];rfl
 ·rw[if_pos (by grind),qvc h];rfl
theorem qsE (k:Nat)(r:qDU)(i:Nat):plc 1 (qBd k 0++r) i=(plc 1 r i).map (·+k):=by
 induction k with
 | zero=>simp
 | succ k ih =>
  rw[qCi,qB2,qlz,if_neg (by decide),ih,Option.map_map]
  congr 1
theorem qv1 {w last:Nat}:∀ {l:List Nat} {a i:Nat},(∀ x∈l,a≤x/2^w)→(∀ j x,l[j]?=some x→∀ y∈l.drop (j+1),x/2^w≤y/2^w) →
  plc 1 (hp w last a l) i=(l[i]?).map fun x=>x/2^w-a+i
 | [],a,i,_,_=>by
  have:=qsE (last-a) [] i
  rw[qBR] at this
  rw[hp,this];rfl
 | x::l,a,i,h,hs=>by
  have hx:=h x qBp
  rw[hp,qsE,qlz,if_pos rfl]
  cases i with
  | zero=>simp
  | succ i =>
   simp only
   have h0:=hs 0 x rfl
   rw[qCZ,qBL] at h0
   rw[qv1 (a:=x/2^w) h0 (fun j y hj=>by
    have:=hs (j+1) y (by grind)
    simp_all)]
   simp only[List.getElem?_cons_succ,Option.map_map]
   cases hl:l[i]? with
   | none=>rfl
   | some y =>
    have:=h0 y (qBe hl)
    grind
theorem qoL {t w:Nat}:∀ {l:List Nat} {a:Nat},Up t a l→∀ j x,l[j]?=some x→∀ y∈l.drop (j+1),x/2^w≤y/2^w
 | [],_,_,j,x,h=>by simp
 | n::l,a,h,0,x,hx=>by
  simp at hx;subst hx
  intro y hy
  rw[qCZ,qBL] at hy
  exact qCq (qxe h.2.2 y hy).1
 | n::l,a,h,j+1,x,hx=>by
  intro y hy
  rw[qCZ] at hy
  exact qoL h.2.2 j x (by grind) y hy
theorem qsD {t:Nat}{l:List Nat}(h:Up t 0 l)(i:Nat):plc 1 (hiF t l) i=(l[i]?).map fun x=>x/2^wd l.length t+i:=by
 unfold hiF
 rw[qv1 (fun x _=>qBC _) (qoL h)]
 simp
theorem qrb {w:Nat}:∀ {l:List Nat} {i x:Nat},l[i]?=some x→((lo' w l).drop (i*w)).take w=nb x w
 | [],i,x,h=>by grind
 | y::l,0,x,h=>by
  simp_all [qhA,qdl]
 | y::l,i+1,x,h=>by
  rw[qhA,qBX,qDR,qCJ,← List.drop_drop,List.drop_left' (qdl _ _)]
  exact qrb (by grind)
theorem qAO {a b m:Nat}(ha:a<2^m)(hb:b%2^m=0)(h:a+b<9223372036854775808):ior .i64 (b:Int) (a:Int)=((b+a:Nat):Int):=by
 unfold ior
 have h1:(qBM (IntKind.bits .i64) (b:Int))=qBB 64 b:=by rfl
 have h2:(qBM (IntKind.bits .i64) (a:Int))=qBB 64 a:=by rfl
 rw[h1,h2]
 have h3:b ||| a=b+a:=by
  have hy2:b=2^m*(b/2^m):=by grind [qC2]
  grind [Nat.two_pow_add_eq_or_of_lt]
 have h4:(qBB 64 b ||| qBB 64 a).toNat=b+a:=by
  grind
 show IntKind.wrap .i64 ((qBB 64 b ||| qBB 64 a).toNat:Int)=_
 grind [yk]
theorem qu6 {t i x:Nat}(hF:20000≤F)(ht:t≤1048576){l:List Nat}(hlm:l.length≤300)(hu:Up t 0 l)(hf:Fits t l)(hx:l[i]?=some x) :
  qbO F (l.length:Int) (t:Int) (wd l.length t:Int) ((loF t l).length:Int) (pk (loF t l)) ((hiF t l).length:Int) (pk (hiF t l)) (i:Int)=some (x:Int):=by
 unfold qbO
 have hw:=qqo (n:=l.length) ht
 have hi:i<l.length:=(qBv.1 hx).1
 have hL:(loF t l).length≤8192:=by rw[qgU];exact hf.1
 have hH:(hiF t l).length≤8192:=by rw[qji hu];exact hf.2
 have hxt:=(qxe hu x (qBe hx)).2
 have hmul:i*wd l.length t+wd l.length t≤(loF t l).length:=by
  rw[qgU,← Nat.succ_mul];exact qBG _ hi
 rw[qly hF (l:=hiF t l) (qlg _ _ _ _) (by omega) (by omega),qsD hu,hx]
 simp only[Option.map_some,qBb]
 have hdx:x/2^wd l.length t≤x:=qCF _ _
 have hz:0≤x/2^wd l.length t:=qBC _
 rw[qn3 (by omega),qg0 (l:=loF t l) (by omega) (qkF _ _) hL (by omega) (by omega),if_pos hmul]
 simp only[qBb]
 have hc:decide ((0:Int)≤((wd l.length t:Nat):Int))=true:=decide_eq_true (by omega)
 rw[hc]
 simp only[chk,if_true,lett]
 have hg:((loF t l).drop (i*wd l.length t)).take (wd l.length t)=nb x (wd l.length t):=qrb hx
 have hp20:2^wd l.length t≤2^20:=qBP (by decide) hw
 rw[show (2:Nat)^20=1048576 from by decide] at hp20
 have hml:=Nat.mod_lt x (show 0<2^wd l.length t from Nat.pow_pos (by decide))
 have hdm:=qC2 x (2^wd l.length t)
 have hdm2:x/2^wd l.length t*2^wd l.length t≤x:=Nat.div_mul_le_self _ _
 rw[hg,qk2,qq6 (by omega) (by omega),qCO,qq3 (by omega) (by omega),qej (by omega),qAO (m:=wd l.length t) hml (Nat.mul_mod_left _ _) (by omega)]
 grind
theorem qj0 {F:Nat}{l:qDU}(hl:Bit l)(hm:l.length≤10000)(bit:Int):∀ (k j c:Nat),l.length<k+j→j≤l.length→1≤c→c+(l.length-j)≤100000 →
  ∃ s,zr F (fun (x31:Int) (x37:Int)=>zd F x31 x37) (l.length:Int) (pk l) bit k ((j:Int),-(c:Int))=some (.inl s)
 | 0,_,_,_,_,_,_=>by omega
 | k+1,j,c,h,hj,hc,hcm=>by
  have e:zr F (fun (x31:Int) (x37:Int)=>zd F x31 x37) (l.length:Int) (pk l) bit (k+1) ((j:Int),-(c:Int)) =
   yU F (fun (x31:Int) (x37:Int)=>zd F x31 x37) (l.length:Int) (pk l) bit (zr F (fun (x31:Int) (x37:Int)=>zd F x31 x37) (l.length:Int) (pk l) bit k) (j:Int) (-(c:Int)):=rfl
  rw[e]
  unfold yU
  by_cases hlt:j<l.length
  ·rw[if_pos (by simp_all),qpc hl (by omega) hlt]
   simp only[qBb]
   have hr:zd F (-(c:Int)) (j:Int)=some (.inl (-((c+1:Nat):Int))):=by
    grind [zd,zV]
   by_cases h1:l[j]=bit
   ·rw[if_pos (by grind),hr]
    simp only[qBb,Sum.elim_inl,yb]
    rw[qs (by omega)]
    exact qj0 hl hm bit k (j+1) (c+1) (by omega) (by omega) (by omega) (by omega)
   ·rw[if_neg (by grind)]
    simp only[yb]
    rw[qs (by omega)]
    exact qj0 hl hm bit k (j+1) c (by omega) (by omega) hc (by omega)
  ·rw[if_neg (by simp_all)]
   simp
theorem qv0 (hF:20000≤F){l:qDU}(hl:Bit l)(hm:l.length≤10000){bit:Int}:qaD F (l.length:Int) (pk l) bit (-1)=some (-1):=by
 unfold qaD
 simp only[qdZ,qBb,qcq]
 obtain ⟨s,hs⟩:=qj0 (F:=F) hl hm bit F 0 1 (by omega) (by omega) (by omega) (by omega)
 simp_all
theorem qu7 {F:Nat}{xs ys:qDU}(he:xs.length=ys.length)(hm:xs.length≤9223372036854775807):∀ (k i:Nat),xs.length<k+i→i≤xs.length→kz F xs ys k (i:Int)=some (decide (xs.drop i=ys.drop i))
 | 0,_,_,_=>by omega
 | k+1,i,h,hi=>by
  show ky F xs ys (kz F xs ys k) (i:Int)=_
  unfold ky
  by_cases hlt:i<xs.length
  ·have hlt':i<ys.length:=by omega
   rw[if_pos (by simp_all),qo,qBc hlt,qo,qBc hlt']
   simp only[qBb]
   rw[qBj hlt,qBj hlt']
   by_cases hc:xs[i]=ys[i]
   ·rw[if_neg (by grind),qs (by omega),qu7 he hm k (i+1) (by omega) (by omega)]
    congr 1
    grind
   grind [List.cons.inj]
  ·rw[if_neg (by simp_all),qBm (by omega),qBm (by omega)]
   rfl
theorem feqb {xs ys:qDU}(hF:xs.length<F)(hm:xs.length≤9223372036854775807):q8 F xs ys=some (decide (xs=ys)):=by
 unfold q8
 by_cases h:xs.length=ys.length
 ·rw[if_neg (by grind)]
  have:=qu7 (F:=F) h hm F 0 (by omega) (qBC _)
  simp_all
 ·rw[if_pos (by grind),decide_eq_false (fun e=>h (by rw[e]))]
theorem qpx {n m:Int}{xs ys:qDU}(hF:xs.length<F)(hm:xs.length≤9223372036854775807):qee F n xs m ys=some (decide (n=m∧xs=ys)):=by
 grind [qee,feqb,qcT]
def FWr (t:Nat)(ns:List Nat)(lw:Int)(lb:qDU)(hw:Int)(hb:qDU):Prop :=
 ns.length≤300∧Up t 0 ns∧Fits t ns∧lw=((loF t ns).length:Int)∧lb=pk (loF t ns)∧hw=((hiF t ns).length:Int)∧hb=pk (hiF t ns)
theorem qAR {t:Nat}(hF:20000≤F)(ht:t≤1048576){out:qDU} :
  (∃ ns,out=lc ns∧FWr t ns lw lb hw hb∧vg F (t:Int) lw lb hw hb out=some (out,0)) ∨
  ((¬ ∃ ns,out=lc ns∧FWr t ns lw lb hw hb)∧vg F (t:Int) lw lb hw hb out=some ([],1)):=by
 unfold vg
 rw[qmK hF]
 simp only[qBb]
 by_cases h:fkc out (t:Int)=0
 ·obtain ⟨ns,k,e,hk,rfl,hm,hu⟩:=qjO.1 h
  obtain rfl:t=k:=by omega
  rw[h,if_neg (by simp),qsj hF hk hm hu]
  simp only[qBb]
  have huniq:∀ ns',lc ns=lc ns'→ns=ns':=fun ns' e=>by have:=congrArg nl e;grind [qvI]
  by_cases hf:Fits t ns
  ·have hL:(loF t ns).length≤8192:=by rw[qgU];exact hf.1
   have hH:(hiF t ns).length≤8192:=by rw[qji hu];exact hf.2
   have hpL:=qpN hL
   have hpH:=qpN hH
   rw[if_pos hf]
   simp only[T8,qB5,qBq,if_false]
   rw[qpx (by omega) (by omega)]
   simp only[qBb]
   by_cases h1:((loF t ns).length:Int)=lw∧pk (loF t ns)=lb
   ·rw[decide_eq_true h1]
    simp only[qB5,qbb,qBq,if_false]
    rw[qpx (by omega) (by omega)]
    simp only[qBb]
    by_cases h2:((hiF t ns).length:Int)=hw∧pk (hiF t ns)=hb
    ·rw[decide_eq_true h2]
     left
     exact ⟨ns,rfl,⟨hm,hu,hf,h1.1.symm,h1.2.symm,h2.1.symm,h2.2.symm⟩,rfl⟩
    ·rw[decide_eq_false h2]
     right
     refine ⟨?_,rfl⟩
     rintro ⟨ns',e1,w⟩
     rw[← huniq ns' e1] at w
     exact h2 ⟨w.2.2.2.2.2.1.symm,w.2.2.2.2.2.2.symm⟩
   ·rw[decide_eq_false h1]
    right
    refine ⟨?_,rfl⟩
    rintro ⟨ns',e1,w⟩
    rw[← huniq ns' e1] at w
    exact h1 ⟨w.2.2.2.1.symm,w.2.2.2.2.1.symm⟩
  ·rw[if_neg hf]
   right
   refine ⟨?_,rfl⟩
   rintro ⟨ns',e1,w⟩
   rw[← huniq ns' e1] at w
   exact hf w.2.2.1
 ·rw[if_pos (by grind)]
  right
  refine ⟨?_,rfl⟩
  rintro ⟨ns,rfl,w⟩
  exact h (qjO.2 ⟨ns,t,rfl,ht,rfl,w.1,w.2.1⟩)
def Good (l:List Nat)(n t w lw:Int)(lb:qDU)(hw:Int)(hb:qDU):Prop :=
 ∃ k:Nat,t=k∧k≤1048576∧n=(l.length:Int)∧w=((wd l.length k:Nat):Int)∧FWr k l lw lb hw hb
def Rg (n t:Int):Prop:=0≤n∧n≤300∧0≤t∧t≤1048576
instance rgDec (n t:Int):Decidable (Rg n t):=inferInstanceAs (Decidable (_∧_))
theorem qxO {l:List Nat}{n:Int}(h:Good l n t w lw lb hw hb):Rg n t:=by
 obtain ⟨k,rfl,hk,rfl,_,h1,_⟩:=h
 exact ⟨by omega,by omega,by omega,by omega⟩
theorem qvL {F t n w:Nat}{lw hw:Int}{lb hb:qDU}(f:Nat→Int)(hn:n≤300)(hat:∀ i,i<n→qbO F (n:Int) (t:Int) (w:Int) lw lb hw hb (i:Int)=some (f i)):∀ (k i:Nat),n<k+i→i≤n →
  qcS F (n:Int) (t:Int) (w:Int) lw lb hw hb k ((qBx i).map f,(i:Int))=vg F (t:Int) lw lb hw hb ((qBx n).map f)
 | 0,_,_,_=>by omega
 | k+1,i,h,hi=>by
  show qcQ F (n:Int) (t:Int) (w:Int) lw lb hw hb (qcS F (n:Int) (t:Int) (w:Int) lw lb hw hb k) ((qBx i).map f) (i:Int)=_
  unfold qcQ
  by_cases hlt:i<n
  ·rw[if_pos (by simp_all),hat i hlt]
   simp only[qBb]
   rw[zU (by grind),qs (by omega)]
   simp only[qBb]
   have e:(qBx i).map f++[f i]=(qBx (i+1)).map f:=by grind [qDh]
   rw[e]
   exact qvL f hn hat k (i+1) (by omega) (by omega)
  grind
theorem qmr (hF:20000≤F){n:Int}(ul:U8s lb)(uh:U8s hb)(il:I64 lw)(ih:I64 hw)(ll:lb.length≤9223372036854775807)(lh:hb.length≤9223372036854775807) :
  (∃ l,Good l n t w lw lb hw hb∧j3 F n t w lw lb hw hb=some (lc l,0)) ∨
  ((¬ ∃ l,Good l n t w lw lb hw hb)∧j3 F n t w lw lb hw hb=some ([],if Rg n t then 1 else 3)):=by
 unfold j3
 by_cases hr:Rg n t
 ·obtain ⟨n,rfl⟩:=qBf hr.1
  obtain ⟨t,rfl⟩:=qBf hr.2.2.1
  have hn:n≤300:=by have:=hr.2.1;omega
  have ht:t≤1048576:=by have:=hr.2.2.2;omega
  have hw20:=qqo (n:=n) ht
  rw[if_neg (by grind),if_pos hr,qqq hF hn ht]
  simp only[qBb]
  by_cases hw1:w=((wd n t:Nat):Int)
  ·subst hw1
   rw[if_neg (by simp),qk4 ul il.1 il.2 ll]
   simp only[qBb]
   rcases qk5 ul (n:=lw) with h1 | ⟨L,hL,hLm,rfl,rfl⟩
   ·right
    refine ⟨?_,by rw[if_pos (by grind)];rfl⟩
    rintro ⟨l,k,e,hk,e2,_,g1,g2,g3,rfl,rfl,_⟩
    exact h1 (qk6 (by rw[qgU];exact g3.1))
   rw[qk6 hLm,if_neg (by simp),qk4 uh ih.1 ih.2 lh]
   simp only[qBb]
   rcases qk5 uh (n:=hw) with h1 | ⟨H,hH,hHm,rfl,rfl⟩
   ·right
    refine ⟨?_,by rw[if_pos (by grind)];rfl⟩
    rintro ⟨l,k,e,hk,e2,_,g1,g2,g3,_,_,rfl,rfl⟩
    exact h1 (qk6 (by rw[qji g2];exact g3.2))
   have hmul:n*wd n t≤300*20:=qC5 hn hw20
   rw[qk6 hHm,if_neg (by simp),qn3 (by omega)]
   by_cases hl1:L.length=n*wd n t
   ·rw[if_neg (by simp_all)]
    have hfin:(n=0∨∃ q,plc 1 H (n-1)=some q) →
      (∃ l,Good l (n:Int) (t:Int) ((wd n t:Nat):Int) (L.length:Int) (pk L) (H.length:Int) (pk H)∧zX F (n:Int) (t:Int) ((wd n t:Nat):Int) (L.length:Int) (pk L) (H.length:Int) (pk H) false=some (lc l,0)) ∨
      ((¬ ∃ l,Good l (n:Int) (t:Int) ((wd n t:Nat):Int) (L.length:Int) (pk L) (H.length:Int) (pk H))∧zX F (n:Int) (t:Int) ((wd n t:Nat):Int) (L.length:Int) (pk L) (H.length:Int) (pk H) false=some ([],1)):=by
     intro hpl
     unfold zX
     rw[if_neg (by simp)]
     have hat:∃ f:Nat→Int,∀ i,i<n→qbO F (n:Int) (t:Int) ((wd n t:Nat):Int) (L.length:Int) (pk L) (H.length:Int) (pk H) (i:Int)=some (f i):=by
      have h1:∀ i,∃ v:Int,i<n→qbO F (n:Int) (t:Int) ((wd n t:Nat):Int) (L.length:Int) (pk L) (H.length:Int) (pk H) (i:Int)=some v:=by
       intro i
       by_cases hi:i<n
       ·unfold qbO
        have hm2:i*wd n t+wd n t≤L.length:=by rw[hl1,← Nat.succ_mul];exact qBG _ hi
        have hc:decide ((0:Int)≤((wd n t:Nat):Int))=true:=decide_eq_true (by omega)
        rw[qly hF hH (by omega) (by omega)]
        simp only[qBb]
        rw[qn3 (by omega),qg0 (by omega) hL hLm (by omega) (by omega)]
        simp only[qBb]
        rw[hc]
        simp only[chk,if_true,lett]
        simp_all
       ·exact ⟨0,fun h=>absurd h hi⟩
      exact ⟨fun i=>Classical.choose (h1 i),fun i hi=>Classical.choose_spec (h1 i) hi⟩
     obtain ⟨f,hat⟩:=hat
     have hl9:=qvL (F:=F) (t:=t) (n:=n) (w:=wd n t) f hn hat F 0 (by omega) (by omega)
     rw[show (qBx 0).map f=[] from rfl,show ((0:Nat):Int)=0 from rfl] at hl9
     rw[hl9]
     rcases qAR (F:=F) (t:=t) hF ht (lw:=(L.length:Int)) (lb:=pk L) (hw:=(H.length:Int)) (hb:=pk H) (out:=(qBx n).map f) with ⟨ns,e,w,hM⟩ | ⟨hno,hM⟩
     ·have hnl:ns.length=n:=by have:=congrArg List.length e;grind [qhz]
      left
      exact ⟨ns,⟨t,rfl,ht,by omega,by grind,w⟩,by grind⟩
     ·right
      refine ⟨?_,hM⟩
      rintro ⟨l,k,e1,hk,e2,e3,w⟩
      obtain rfl:t=k:=by omega
      have hnl:n=l.length:=by omega
      apply hno
      refine ⟨l,?_,w⟩
      obtain ⟨w1,w2,w3,w4,w5,w6,w7⟩:=w
      apply List.ext_getElem?
      grind [qu6,lc]
    have hnoform:n≠0→plc 1 H (n-1)=none→¬ ∃ l,Good l (n:Int) (t:Int) ((wd n t:Nat):Int) (L.length:Int) (pk L) (H.length:Int) (pk H):=by
     rintro h0 hp ⟨l,k,e1,hk,e2,e3,w1,w2,w3,w4,w5,w6,w7⟩
     obtain rfl:t=k:=by omega
     grind [hiF,qvZ,qlg,qsD]
    by_cases h0:n=0
    ·subst h0
     have:isub .i64 ((0:Nat):Int) 1=-1:=by decide
     rw[this,qv0 hF hH (by omega)]
     simp_all
    ·rw[qd5 (by omega) (by omega),qly hF hH (by omega) (by omega)]
     simp only[qBb]
     cases hp:plc 1 H (n-1) with
     | none =>
      right
      refine ⟨hnoform h0 hp,?_⟩
      simp only
      rw[if_pos (by simp),decide_eq_true (show (0:Int)<(n:Int) by omega)]
      rfl
     | some q =>
      grind
   ·right
    refine ⟨?_,by rw[if_pos (by grind)];rfl⟩
    rintro ⟨l,k,e1,hk,e2,e3,w1,w2,w3,w4,_⟩
    obtain rfl:t=k:=by omega
    grind [qgU]
  ·right
   refine ⟨?_,by rw[if_pos (by simp_all)];rfl⟩
   rintro ⟨l,k,e1,hk,e2,e3,_⟩
   grind
 ·right
  refine ⟨fun ⟨l,h⟩=>hr (qxO h),?_⟩
  rw[if_pos (by unfold Rg at hr;grind),if_neg hr]
theorem qzT {l:List Nat}{i:Nat}(hi:i<l.length):(lc l)[i]?=some ((l[i]:Nat):Int):=by simp[lc,hi]
def rdn (w:Nat)(L:qDU):qDU→Nat→Nat→Nat→List Nat
 | [],_,_,_=>[]
 | _::_,_,0,_=>[]
 | b::H,h,m+1,k=>if b=0 then rdn w L H (h+1) (m+1) k else (h*2^w+bv ((L.drop (k*w)).take w))::rdn w L H h m (k+1)
theorem qAV {w:Nat}{L X:qDU}{h k:Nat}:rdn w L X h 0 k=[]:=by cases X <;> rfl
theorem qsN {w:Nat}{L X:qDU}{m k:Nat}:∀ {c h:Nat},rdn w L (qBd c 0++X) h (m+1) k=rdn w L X (h+c) (m+1) k
 | 0,h=>by simp
 | c+1,h=>by
  rw[qCi,qB2,rdn,if_pos rfl,qsN,show h+1+c=h+(c+1) from by omega]
theorem qwc {w last:Nat}{L:qDU}:∀ {l:List Nat} {a k:Nat},(∀ x∈l,a≤x/2^w)→(∀ j x,l[j]?=some x→∀ y∈l.drop (j+1),x/2^w≤y/2^w) →
  (∀ i x,l[i]?=some x→(L.drop ((k+i)*w)).take w=nb x w)→rdn w L (hp w last a l) a l.length k=l
 | [],a,k,_,_,_=>qAV
 | x::l,a,k,h,hs,hL=>by
  have hx:=h x qBp
  have h0:=hs 0 x rfl
  rw[qCZ,qBL] at h0
  have h1:=hL 0 x rfl
  rw[Nat.add_zero] at h1
  have ih:=qwc (w:=w) (last:=last) (L:=L) (l:=l) (a:=x/2^w) (k:=k+1) h0 (fun j y hj=>by
    have:=hs (j+1) y (by grind)
    simp_all) (fun i y hy=>by
    have:=hL (i+1) y (by grind)
    grind)
  grind [qC2,hp,qsN,rdn,qk2]
theorem qvd {l:qDU}:(∃ (ns:List Nat) (k:Nat),l=lc ns∧t=k∧k≤1048576∧ns.length≤300∧Up k 0 ns∧Fits k ns∧fw l t=fo8 k ns)∨(∃ e:Int,e≠0∧fw l t=fz8 e∧¬ ∃ (ns:List Nat) (k:Nat),l=lc ns∧t=k∧k≤1048576∧ns.length≤300∧Up k 0 ns∧Fits k ns):=by
 by_cases h:fkc l t=0
 ·obtain ⟨ns,k,rfl,hk,rfl,hm,hu⟩:=qjO.1 h
  have hf2:=(qnV hk hm hu).2
  by_cases hf:Fits k ns
  ·grind
  ·right
   refine ⟨8,by decide,by simp_all,?_⟩
   rintro ⟨ns',k',e1,e2,_,_,_,f⟩
   obtain rfl:k=k':=by omega
   have:=congrArg nl e1
   grind [qvI]
 ·right
  refine ⟨fkc l t,h,qvc h,?_⟩
  grind [qjO]
theorem qvk {l:List Nat}{t:Nat}(hu:Up t 0 l):rdn (wd l.length t) (loF t l) (hiF t l) 0 l.length 0=l:=by
 unfold hiF
 refine qwc (fun x _=>qBC _) (qoL hu) (fun i x hx=>?_)
 rw[qB0]
 exact qrb hx
theorem qtI {l l':List Nat}{n:Int}(g:Good l n t w lw lb hw hb)(g':Good l' n t w lw lb hw hb):l=l':=by
 obtain ⟨k,rfl,hk,a1,a2,a3,a4,a5,a6,a7,a8,a9⟩:=g
 obtain ⟨k',e,hk',b1,b2,b3,b4,b5,b6,b7,b8,b9⟩:=g'
 obtain rfl:k=k':=by omega
 grind [loF,qvZ,qkF,hiF,qlg,qvk]
def gf (l:List Nat)(i:Int):Int×Int:=match (if 0≤i then l[i.toNat]? else none) with | none=>(0,3) | some x=>((x:Int),0)
structure Bd (lw:Int) (lb:qDU) (hw:Int) (hb:qDU):Prop where
 ul:U8s lb
 uh:U8s hb
 il:I64 lw
 ih:I64 hw
 ll:lb.length≤9223372036854775807
 lh:hb.length≤9223372036854775807
theorem qvK {n:Int}{l:List Nat}(hF:20000≤F)(b:Bd lw lb hw hb)(g:Good l n t w lw lb hw hb):j3 F n t w lw lb hw hb=some (lc l,0):=by
 rcases qmr (F:=F) (n:=n) (t:=t) (w:=w) hF b.ul b.uh b.il b.ih b.ll b.lh with ⟨k,g',h⟩ | ⟨h,_⟩
 ·rw[h,qtI g' g]
 ·exact absurd ⟨l,g⟩ h
theorem quL {n:Int}{l:List Nat}(hF:20000≤F)(b:Bd lw lb hw hb)(g:Good l n t w lw lb hw hb):qeN F n t w lw lb hw hb=some 0:=by
 unfold qeN;rw[qvK hF b g];rfl
theorem qvf {n:Int}{l:List Nat}(hF:20000≤F)(b:Bd lw lb hw hb)(g:Good l n t w lw lb hw hb):qfi F n t w lw lb hw hb i=some (gf l i):=by
 unfold qfi
 rw[quL hF b g]
 simp only[qBb]
 rw[if_pos (by rfl)]
 obtain ⟨k,rfl,hk,rfl,rfl,w1,w2,w3,rfl,rfl,rfl,rfl⟩:=g
 unfold gf qdT
 by_cases hi:0≤i∧i<(l.length:Int)
 ·obtain ⟨i,rfl⟩:=qBf hi.1
  grind [qdS,qu6]
 ·rw[if_pos (by grind)]
  have:(if 0≤i then l[i.toNat]? else none)=none:=by
   simp_all
  rw[this];rfl
theorem qxN {l:List Nat}{k:Nat}(hk:k≤1048576)(hm:l.length≤300)(hu:Up k 0 l)(hf:Fits k l):Good l (l.length:Int) (k:Int) ((wd l.length k:Nat):Int) ((loF k l).length:Int) (pk (loF k l)) ((hiF k l).length:Int) (pk (hiF k l)) :=
 ⟨k,rfl,hk,rfl,rfl,hm,hu,hf,rfl,rfl,rfl,rfl⟩
theorem qAG {l:List Nat}{k:Nat}(hu:Up k 0 l)(hf:Fits k l):Bd ((loF k l).length:Int) (pk (loF k l)) ((hiF k l).length:Int) (pk (hiF k l)):=by
 have hL:(loF k l).length≤8192:=by rw[qgU];exact hf.1
 have hH:(hiF k l).length≤8192:=by rw[qji hu];exact hf.2
 exact ⟨qic (qkF _ _),qic (qlg _ _ _ _),⟨by omega,by omega⟩,⟨by omega,by omega⟩,qsC hL,qsC hH⟩
theorem quH (hF:2000000≤F){least m:Int}(hp:pkE g B least k=0) :
  qa2 F g N B least k m b=some (if (fw (pkA g B least k.toNat g.length).2.2 m).2.2.2.2.2.2.2≠0 then (0,0,0,0,0,[],0,0,0,0,[],0,[],(fw (pkA g B least k.toNat g.length).2.2 m).2.2.2.2.2.2.2) else
   (N,B,least,k,m,b,(fw (pkA g B least k.toNat g.length).2.2 m).1,(fw (pkA g B least k.toNat g.length).2.2 m).2.1,(fw (pkA g B least k.toNat g.length).2.2 m).2.2.1,(fw (pkA g B least k.toNat g.length).2.2 m).2.2.2.1,(fw (pkA g B least k.toNat g.length).2.2 m).2.2.2.2.1,(fw (pkA g B least k.toNat g.length).2.2 m).2.2.2.2.2.1,(fw (pkA g B least k.toNat g.length).2.2 m).2.2.2.2.2.2.1,0)):=by
 grind [qa2,qv4,ptl,qtG]
theorem qlT {g:List (qDU)}{B least:Int}{k:Nat}:∀ n:Nat,(pkA g B least k n).2.2=(qBx n).map fun i=>((pkA g B least k i).1.length:Int)
 | 0=>rfl
 | n+1=>by
  rw[qDh,List.map_append,← qlT (g:=g) (B:=B) (least:=least) (k:=k) n]
  rfl
def dpt (g:List (qDU))(B least:Int)(k:Nat):Nat→Nat→Nat
 | 0,_=>0
 | f+1,i=>1+if (pkN g B least k i).1=0 then 0 else dpt g B least k f (i-(pkN g B least k i).1)
theorem qz4 {least:Int}{k i:Nat}:(pkN g B least k i).1≤i:=by
 grind [qlx]
theorem qAf (hg:Gr g){least:Int}{k:Nat}(hh:hcE B least (k:Int)=0)(hl:(pkA g B least k g.length).1.length≤8192){i:Nat}(hi:i<g.length) :
  ∃ p q:Nat,p≤(pkA g B least k g.length).1.length∧pkO (pkA g B least k g.length).1 B i (pkA g B least k i).1.length=some (((pkN g B least k i).1:Int),p) ∧
   rdl (pkA g B least k g.length).1 p (i:Int) (pkF g i (pkN g B least k i).1) ((pkN g B least k i).1:Int) least k=some (g.getD i [],q):=by
 obtain ⟨k1,k2,k',hk,k3,k4⟩:=qeK hh
 have hkk:k=k':=by omega
 subst hkk
 obtain ⟨hr,_⟩:=qlx (g:=g) (B:=B) (least:=least) (k:=k) (i:=i)
 have hgl:=hg.1
 obtain ⟨R,hR⟩:=qpL (g:=g) (B:=B) (least:=least) (k:=k) hi
 have hA:(pkA g B least k (i+1)).1.length=(pkA g B least k i).1.length+(pkH B (pkN g B least k i).1).length+(enc (i:Int) (g.getD i []) (pkF g i (pkN g B least k i).1) ((pkN g B least k i).1:Int) least k).length:=by
  grind [pkA,pkW]
 have hM:=qhE (g:=g) (B:=B) (least:=least) (k:=k) (show i+1≤g.length from hi)
 refine ⟨(pkA g B least k i).1.length+(pkH B (pkN g B least k i).1).length,(pkA g B least k i).1.length+(pkH B (pkN g B least k i).1).length+(enc (i:Int) (g.getD i []) (pkF g i (pkN g B least k i).1) ((pkN g B least k i).1:Int) least k).length,by omega,?_,?_⟩
 ·grind [pkO,pkH,qhR]
 ·have hE:(enc (i:Int) (g.getD i []) (pkF g i (pkN g B least k i).1) ((pkN g B least k i).1:Int) least k).length≤8192:=by omega
  grind [qsM,Nd,qnY,qkG]
theorem qzN {l:List Nat}{i:Nat}(h:i<l.length):gf l (i:Int)=(((l[i]:Nat):Int),0):=by
 grind [gf]
abbrev S14:=Int×Int×Int×Int×Int×qDU×Int×Int×Int×Int×qDU×Int×qDU×Int
def shz (e:Int):S14:=(0,0,0,0,0,[],0,0,0,0,[],0,[],e)
def fwp (g:List (qDU))(B least k:Int):F8:=fw (pkA g B least k.toNat g.length).2.2 ((pkA g B least k.toNat g.length).1.length:Int)
def shE (g:List (qDU))(B least k:Int):Int:=if pkE g B least k≠0 then pkE g B least k else (fwp g B least k).2.2.2.2.2.2.2
def shb (g:List (qDU))(B least k:Int):S14 :=
 if shE g B least k≠0 then shz (shE g B least k) else ((g.length:Int),B,least,k,((pkA g B least k.toNat g.length).1.length:Int),pk (pkA g B least k.toNat g.length).1,(fwp g B least k).1,(fwp g B least k).2.1,(fwp g B least k).2.2.1,(fwp g B least k).2.2.2.1,(fwp g B least k).2.2.2.2.1,(fwp g B least k).2.2.2.2.2.1,(fwp g B least k).2.2.2.2.2.2.1,0)
theorem qAe {least:Int}:shE g B least k=0↔pkE g B least k=0∧(fwp g B least k).2.2.2.2.2.2.2=0:=by
 grind [shE]
theorem qwx {least:Int}(h:shE g B least k=0):shb g B least k=((g.length:Int),B,least,k,((pkA g B least k.toNat g.length).1.length:Int),pk (pkA g B least k.toNat g.length).1,(fwp g B least k).1,(fwp g B least k).2.1,(fwp g B least k).2.2.1,(fwp g B least k).2.2.2.1,(fwp g B least k).2.2.2.2.1,(fwp g B least k).2.2.2.2.2.1,(fwp g B least k).2.2.2.2.2.2.1,0):=by
 grind [shb]
theorem qon {least:Int}(h:shE g B least k≠0):shb g B least k=shz (shE g B least k):=by
 grind [shb]
def blt (N B least k m:Int)(b:qDU)(f:F8):S14:=if f.2.2.2.2.2.2.2≠0 then shz f.2.2.2.2.2.2.2 else (N,B,least,k,m,b,f.1,f.2.1,f.2.2.1,f.2.2.2.1,f.2.2.2.2.1,f.2.2.2.2.2.1,f.2.2.2.2.2.2.1,0)
theorem qmA (hF:2000000≤F){least m:Int}(hp:pkE g B least k=0) :
  qa2 F g N B least k m b=some (blt N B least k m b (fw (pkA g B least k.toNat g.length).2.2 m)):=quH hF hp
theorem qrn (hF:2000000≤F){least:Int}:qd1 F g B least k=some (shb g B least k):=by
 unfold qd1
 rw[qm0 hF]
 simp only[qBb]
 by_cases hp:pkE g B least k=0
 ·grind [pwr,qmA,blt,fwp,qwx,shE,qon]
 ·have e:pwr g B least k=(0,0,0,0,0,[],pkE g B least k):=by
   grind [pwr]
  have hs:shE g B least k=pkE g B least k:=by grind [shE]
  rw[e]
  simp only
  rw[if_pos (by grind),qon (by omega),hs]
  rfl
theorem qtu (F:Nat)(g:List (qDU))(N B least k m:Int)(b:qDU):qeH F g N B least k m b=qa2 F g N B least k m b:=rfl
theorem qmN {least:Int}:(∃ (ns:List Nat) (kk:Nat),(pkA g B least k.toNat g.length).2.2=lc ns∧((pkA g B least k.toNat g.length).1.length:Int)=kk∧kk≤1048576∧ns.length≤300∧Up kk 0 ns∧Fits kk ns∧fwp g B least k=fo8 kk ns)∨(∃ e:Int,e≠0∧fwp g B least k=fz8 e):=by
 rcases qvd (l:=(pkA g B least k.toNat g.length).2.2) (t:=((pkA g B least k.toNat g.length).1.length:Int)) with ⟨ns,kk,h1,h2,h3,h4,h5,h6,h7⟩ | ⟨e,h1,h2,_⟩
 ·exact Or.inl ⟨ns,kk,h1,h2,h3,h4,h5,h6,h7⟩
 ·exact Or.inr ⟨e,h1,h2⟩
theorem qxL {least:Int}:(fwp g B least k).2.2.2.2.1.length≤1100∧(fwp g B least k).2.2.2.2.2.2.1.length≤1100:=by
 rcases qmN (g:=g) (B:=B) (least:=least) (k:=k) with ⟨ns,kk,h1,h2,h3,h4,h5,h6,h7⟩ | ⟨e,h1,h2⟩
 ·rw[h7]
  have e1:=qgU kk ns
  have e2:=qji h5
  unfold Fits at h6
  unfold fo8
  simp only[qjZ]
  omega
 ·rw[h2];unfold fz8;simp
theorem qt0 {a1 a2 a3 a4 a6 n:Int}{a5 a7:qDU}(h1:a5.length<F)(h2:a7.length<F)(h3:a5.length≤1000000)(h4:a7.length≤1000000) :
  qeS F a1 a2 a3 a4 a5 a6 a7 n t w lw xl hw xh=some (decide ((a1,a2,a3,a4,a5,a6,a7)=(n,t,w,lw,xl,hw,xh))):=by
 unfold qeS qcr qcs
 by_cases h:a1=n∧a2=t∧a3=w∧a4=lw∧a6=hw
 ·obtain ⟨rfl,rfl,rfl,rfl,rfl⟩:=h
  rw[if_pos (by simp),peqb h1 h3]
  simp only[qBb]
  by_cases h5:a5=xl
  ·subst h5
   rw[if_pos (by simp),peqb h2 h4]
   simp
  simp_all
 grind [qDu]
instance f8Dec:DecidableEq F8:=fun a b=>decidable_of_iff (a.1=b.1∧a.2=b.2) ⟨fun h=>Prod.ext h.1 h.2,fun h=>by simp_all⟩
def shc (N B least k m:Int)(b:qDU)(n t w lw:Int)(xl:qDU)(hw:Int)(xh:qDU):Int :=
 if (prd N B least k m b).2≠0 then (prd N B least k m b).2 else if fwp (prd N B least k m b).1 B least k=(n,t,w,lw,xl,hw,xh,0) then 0 else 4
theorem qlL (hF:2000000≤F){least m n:Int}(hb:U8s b)(hm:I64 m)(lb:b.length≤9223372036854775807) :
  qd2 F N B least k m b n t w lw xl hw xh=some (shc N B least k m b n t w lw xl hw xh):=by
 unfold qd2 shc
 rw[qv3 hF hb hm lb]
 simp only[qBb]
 by_cases h:(prd N B least k m b).2=0
 ·obtain ⟨g,h1,h2,h3,h4,h5⟩:=qz7 hb h
  rw[h1]
  simp only
  rw[if_neg (by decide),if_neg (by simp),qtu,qmA hF h2]
  simp only[qBb]
  subst h4
  have ef:fw (pkA g B least k.toNat g.length).2.2 ((pkA g B least k.toNat g.length).1.length:Int)=fwp g B least k:=rfl
  rw[ef]
  by_cases he:(fwp g B least k).2.2.2.2.2.2.2=0
  ·grind [blt,qxL,qt0,j6]
  ·have e2:∀ m',blt N B least k m' b (fwp g B least k)=shz (fwp g B least k).2.2.2.2.2.2.2:=by
    grind [blt]
   rw[e2,if_pos (by simpa[shz] using he)]
   unfold j6
   grind
 simp_all
theorem qwy {least n:Int}(h:pkE g B least k=0)(hs:fwp g B least k=(n,t,w,lw,xl,hw,xh,0)) :
  shc (g.length:Int) B least k ((pkA g B least k.toNat g.length).1.length:Int) (pk (pkA g B least k.toNat g.length).1) n t w lw xl hw xh=0:=by
 grind [shc,qz6]
theorem qmL {g:List (qDU)}{B least:Int}{k:Nat}(hp:pkE g B least (k:Int)=0){n t w lw hw:Int}{xl xh:qDU}(hf:fwp g B least (k:Int)=(n,t,w,lw,xl,hw,xh,0)) :
  ∀ (f F i rd:Nat),2000000+f≤F→i<f→i<g.length→rd+f≤1000000 →
  yC F (g.length:Int) B least (k:Int) ((pkA g B least k g.length).1.length:Int) (pk (pkA g B least k g.length).1) n t w lw xl hw xh (rd:Int) (i:Int) =
   some (g.getD i [],(g.length:Int),B,least,(k:Int),((pkA g B least k g.length).1.length:Int),n,t,w,lw,hw,((rd+dpt g B least k f i:Nat):Int))
 | 0,_,_,_,_,h,_,_=>by omega
 | f+1,F,i,rd,hF,hi,hg,hr=>by
  obtain ⟨F,rfl⟩:∃ F',F=F'+1:=⟨F-1,by omega⟩
  obtain ⟨p1,p2,p3⟩:=qiF hp
  rw[qBh] at p3
  have hG:=jA.1 p1
  have hgl:=hG.1
  obtain ⟨k1,k2,k',hk,k3,k4⟩:=qeK p2
  have hkk:k=k':=by omega
  subst hkk
  obtain ⟨p,q,q1,q2,q3⟩:=qAf hG p2 p3 hg
  have hri:=qz4 (g:=g) (B:=B) (least:=least) (k:=k) (i:=i)
  have hbit:=qgY (g:=g) (B:=B) (least:=least) (k:=k) g.length
  have hmono:=qhE (g:=g) (B:=B) (least:=least) (k:=k) (show i≤g.length by omega)
  have hget:qfi F n t w lw xl hw xh (i:Int)=some (((pkA g B least k i).1.length:Int),0):=by
   rcases qmN (g:=g) (B:=B) (least:=least) (k:=(k:Int)) with ⟨ns,kk,h1,h2,h3,h4,h5,h6,h7⟩ | ⟨e,h1,h2⟩
   ·rw[hf] at h7
    unfold fo8 at h7
    simp only[qDu] at h7
    obtain ⟨rfl,rfl,rfl,rfl,rfl,rfl,rfl,-⟩:=h7
    rw[qBh,qlT] at h1
    have hlen:ns.length=g.length:=by
     have:=congrArg List.length h1
     grind [qhz]
    rw[qvf (by omega) (qAG h5 h6) (qxN h3 h4 h5 h6),qzN (show i<ns.length by omega)]
    have h8:=qzT (l:=ns) (i:=i) (by omega)
    grind
   grind [fz8]
  unfold yC
  simp only
  rw[hget]
  simp only[qBb]
  rw[qsF (by omega) hbit p3 k1 (by omega) (by omega),q2]
  simp only[qBb]
  have hfrom:∀ fr:qDU,fr=pkF g i (pkN g B least k i).1→qap F ((pkA g B least k g.length).1.length:Int) (pk (pkA g B least k g.length).1) (p:Int) (i:Int) fr ((pkN g B least k i).1:Int) least (k:Int)=some (g.getD i [],(q:Int),0):=by
   rintro fr rfl
   grind [qp2,Nd,qkG]
  by_cases h0:(pkN g B least k i).1=0
  ·grind [yp,pkF,qs,dpt]
  ·rw[if_pos (by grind),qs (by omega)]
   have e1:isub .i64 (i:Int) ((pkN g B least k i).1:Int)=((i-(pkN g B least k i).1:Nat):Int):=by
    grind [zV]
   rw[e1,qmL hp hf f F (i-(pkN g B least k i).1) (rd+1) (by omega) (by omega) (by omega) (by omega)]
   grind [yp,pkF,dpt]
structure Shf (g:List (qDU)) (B least k n t w lw:Int) (xl:qDU) (hw:Int) (xh:qDU):Prop where
 pe:pkE g B least k=0
 fe:fwp g B least k=(n,t,w,lw,xl,hw,xh,0)
theorem qyi {least:Int}(h:shE g B least k=0):Shf g B least k (fwp g B least k).1 (fwp g B least k).2.1 (fwp g B least k).2.2.1 (fwp g B least k).2.2.2.1 (fwp g B least k).2.2.2.2.1 (fwp g B least k).2.2.2.2.2.1 (fwp g B least k).2.2.2.2.2.2.1:=by
 obtain ⟨h1,h2⟩:=qAe.1 h
 refine ⟨h1,?_⟩
 grind
theorem qzh {least n:Int}(s:Shf g B least k n t w lw xl hw xh) :
  U8s (pk (pkA g B least k.toNat g.length).1)∧I64 ((pkA g B least k.toNat g.length).1.length:Int)∧(pk (pkA g B least k.toNat g.length).1).length≤9223372036854775807:=by
 obtain ⟨p1,p2,p3⟩:=qiF s.pe
 refine ⟨qic (qgY _),⟨by omega,by omega⟩,?_⟩
 rw[qjZ];omega
def rdn' (g:List (qDU))(B least k:Int)(i:Nat):Nat:=dpt g B least k.toNat 101 i
theorem qxX (hF:2000200≤F){least n:Int}(s:Shf g B least k n t w lw xl hw xh){i:Nat}(hi:i<g.length) :
  qbT F (g.length:Int) B least k ((pkA g B least k.toNat g.length).1.length:Int) (pk (pkA g B least k.toNat g.length).1) n t w lw xl hw xh (i:Int)=some (g.getD i [],(rdn' g B least k i:Int),0):=by
 obtain ⟨p1,p2,p3⟩:=qiF s.pe
 have hgl:=(jA.1 p1).1
 obtain ⟨k1,k2,k',rfl,k3,k4⟩:=qeK p2
 obtain ⟨b1,b2,b3⟩:=qzh s
 unfold qbT
 rw[qlL (by omega) b1 b2 b3,qwy s.pe s.fe]
 simp only[qBb]
 rw[if_pos (by rfl)]
 unfold qaU
 rw[if_neg (by simp_all)]
 unfold qaT
 rw[if_neg (by decide)]
 have:=qmL s.pe s.fe 101 F i 0 (by omega) (by omega) hi (by omega)
 rw[qBh] at *
 rw[show ((0:Nat):Int)=0 from rfl] at this
 rw[this]
 simp only[qBb]
 unfold rdn'
 simp
theorem qvB (hF:2000200≤F){least n:Int}(s:Shf g B least k n t w lw xl hw xh)(hi:i<0∨(g.length:Int)≤i) :
  qbT F (g.length:Int) B least k ((pkA g B least k.toNat g.length).1.length:Int) (pk (pkA g B least k.toNat g.length).1) n t w lw xl hw xh i=some ([],0,3):=by
 obtain ⟨b1,b2,b3⟩:=qzh s
 unfold qbT
 rw[qlL (by omega) b1 b2 b3,qwy s.pe s.fe]
 grind [qaU,qaT]
abbrev DR:=List (qDU)×Int×Int×Int×qDU×Int
def Fin (g:List (qDU))(B l K:Int)(r:DR):Prop :=
 (∃ e:Int,0<e∧e≤100∧r=([],0,0,0,[],e))∨∃ g' B' l' K' t,r=(g',B',l',K',t,0)∧Gr g'∧hcE B' l' K'=0∧t.length≤2000000∧(t=[111,107]∨g'=g∧B'=B∧l'=l∧K'=K)
theorem qgB {x:α}{xs:List α}:sub (x::xs) 1 ((x::xs).length:Int)=some xs:=by
 unfold sub
 rw[if_pos ⟨by decide,by grind,Int.le_refl _⟩,qBh,qCk]
 rfl
def ls3 (L:qDU):List (qDU):=L.map dcI
theorem qvA {F:Nat}{L:qDU}(hL:∀ x∈L,0≤x∧x<1000)(hm:L.length≤1000):∀ (k i:Nat),L.length<k+i→i≤L.length→qbB F L k (ls3 (L.take i),(i:Int))=joinM (ls3 L) [32]
 | 0,_,_,_=>by omega
 | k+1,i,h,hi=>by
  show qbz F L (qbB F L k) (ls3 (L.take i)) (i:Int)=_
  unfold qbz
  by_cases hlt:i<L.length
  ·rw[if_pos (decide_eq_true (by omega)),qo,qBc hlt]
   simp only[qBb]
   rw[qnR (hL _ (qBu hlt))]
   simp only[qBb]
   rw[zU (by simp[ls3];omega)]
   simp only[qBb]
   rw[qs (by omega),← qvA hL hm k (i+1) (by omega) (by omega)]
   congr 2
   grind [ls3,qbX]
  grind [qbA]
theorem quF (x:qDU):(bstr x).data.toList.length=x.length:=by
 have:=vC x
 simp_all
theorem qvy {L:qDU}(hL:∀ x∈L,0≤x∧x<1000):Lib.lens ((ls3 L).map fun x=>(bstr x).data.toList)≤3*L.length:=by
 induction L with
 | nil=>exact qBo _
 | cons x L ih =>
  have h1:=(qhw (hL x (qBp ..))).2
  have h2:=ih fun y hy=>hL y (qBt _ hy)
  grind [Lib.lens,ls3,quF]
theorem qut {n L:qDU}(hF:2000≤F)(hL:∀ x∈L,0≤x∧x<1000)(hm:L.length≤1000):∃ t,jp F g B l K n s L=some t∧joinM (ls3 L) [32]=some t∧t.length≤5000:=by
 have h:=qvA (F:=F) hL hm F 0 (by omega) (by omega)
 have hj:(Lib.join ((ls3 L).map fun x=>(bstr x).data.toList) (bstr [32]).data.toList).length≤5000:=by
  have h1:=qvy hL
  generalize hq:(ls3 L).map (fun x=>(bstr x).data.toList)=q at h1
  have hql:q.length=L.length:=by grind [ls3]
  cases q with
  | nil=>rw[Lib.join_nil];omega
  | cons x r =>
   grind [Lib.join_length,quF]
 have hs:joinM (ls3 L) [32]=some (lB ⟨(Lib.join ((ls3 L).map fun x=>(bstr x).data.toList) (bstr [32]).data.toList).toArray⟩):=by
  grind [joinM,ls3]
 refine ⟨_,h.trans hs,hs,?_⟩
 simpa[lB] using hj
theorem qAX (hg:Gr g){x y:Nat}(hx:x<g.length)(h:Sc g x y):y<g.length:=by
 obtain ⟨k,hk⟩:=h.1
 exact qA3 hg hx hk
def Acy (g:List (qDU)):Prop:=∀ i,i<g.length→P g i=i∧¬ Ld g i i
theorem Acy.sc (hg:Gr g)(h:Acy g){x y:Nat}(hx:x<g.length)(hs:Sc g x y):x=y:=by
 have hy:=qAX hg hx hs
 have:=(qAF hg hx hy).2 hs
 rw[(h x hx).1,(h y hy).1] at this
 omega
theorem qz2 (g:List (qDU)):OI g []:=⟨List.nodup_nil,by simp,by simp⟩
theorem qmW {g:List (qDU)}(hg:Gr g):∀ (m:Nat) (out o:List Nat),OI g out→ordM g m out=some o→OI g o∧o.take out.length=out∧o.length=out.length+m∧∀ j,out.length≤j→j<o.length→nxO g (o.take j)=o[j]?
 | 0,out,o,ho,h=>by
  grind [ordM]
 | m+1,out,o,ho,h=>by
  cases hn:nxO g out with
  | none=>simp[ordM,hn] at h
  | some i =>
   obtain ⟨hi,hf,_⟩:=qpI hn
   simp only[ordM,hn] at h
   obtain ⟨h1,h2,h3,h4⟩:=qmW hg m _ _ (ho.snoc hg hi hf) h
   rw[qBk,qCS] at h2 h3 h4
   have ht:o.take out.length=out:=by
    have:(o.take (out.length+1)).take out.length=(out++[i]).take out.length:=by rw[h2]
    grind
   refine ⟨h1,ht,by omega,fun j hj hjl=>?_⟩
   by_cases e:j=out.length
   ·subst e
    rw[ht,hn]
    have:(o.take (out.length+1))[out.length]?=(out++[i])[out.length]?:=by rw[h2]
    grind
   grind
structure Tp (g:List (qDU)) (o:qDU):Prop where
 len:o.length=g.length
 nd:o.Nodup
 rg:∀ x∈o,0≤x∧x<g.length
 up:∀ i j a b:Nat,Ld g i j→o[a]?=some (i:Int)→o[b]?=some (j:Int)→a<b
theorem qrf {L:List Nat}{n:Nat}(h:L.Nodup)(hl:L.length=n)(hlt:∀ x∈L,x<n):∀ x,x<n→x∈L:=fun x hx=>Classical.byContradiction fun hc=>by
 have:=qfy (L:=x::L) (M:=qBx n) (List.nodup_cons.2 ⟨hc,h⟩) fun y hy=>by
  grind
 grind
theorem Tp.nat {o:qDU}(h:Tp g o):∃ q:List Nat,o=iz q∧q.Nodup∧q.length=g.length∧∀ x∈q,x<g.length:=by
 refine ⟨o.map Int.toNat,?_,?_,by simp[h.len],fun x hx=>?_⟩
 ·unfold iz
  rw[List.map_map]
  conv=>lhs;rw[← List.map_id o]
  refine List.map_congr_left fun x hx=>?_
  have:=h.rg x hx
  grind
 ·refine List.pairwise_map.2 (List.Pairwise.imp_of_mem (fun hx hy hne e=>?_) h.nd)
  have:=h.rg _ hx;have:=h.rg _ hy
  omega
 ·obtain ⟨y,hy,rfl⟩:=List.mem_map.1 hx
  have:=h.rg y hy
  omega
theorem qz1 {L:List α}(h:L.Nodup){i j:Nat}{x:α}(hi:L[i]?=some x)(hj:L[j]?=some x):i=j:=by
 grind [List.pairwise_iff_getElem]
theorem qxU {q:List Nat}{a i:Nat}:(iz q)[a]?=some (i:Int)↔q[a]?=some i:=by
 unfold iz
 grind
theorem Tp.pos {o:qDU}(h:Tp g o){i:Nat}(hi:i<g.length):∃ a,o[a]?=some (i:Int)∧a<g.length:=by
 obtain ⟨q,rfl,h1,h2,h3⟩:=h.nat
 obtain ⟨a,ha,e⟩:=List.getElem_of_mem (qrf h1 h2 h3 i hi)
 exact ⟨a,qxU.2 (by grind),by omega⟩
theorem Tp.wk (hg:Gr g){o:qDU}(h:Tp g o):∀ {k i j a b:Nat},Wk g k i j→o[a]?=some (i:Int)→o[b]?=some (j:Int)→a+k≤b
 | 0,i,j,a,b,hw,ha,hb=>by
  obtain rfl:i=j:=hw
  have:=qz1 h.nd ha hb
  omega
 | k+1,i,j,a,b,hw,ha,hb=>by
  obtain ⟨u,h1,h2⟩:=hw
  obtain ⟨c,hc,_⟩:=h.pos (qlm hg h1).2
  have:=h.up i u a c h1 ha hc
  have:=Tp.wk hg h h2 hc hb
  omega
theorem known1 {n:qDU}(hF:10≤F):k9 F g B l K n s [a]=some (decide (a<g.length)):=by
 unfold k9 zx zK
 obtain ⟨k,rfl⟩:∃ k,F=k+2:=⟨F-2,by omega⟩
 have e0:zA (k+2) [a] g B l K n s (k+2) 0=if (g.length:Int)≤a then some 0 else some (-1):=by
  show zy (k+2) [a] g B l K n s (zA (k+2) [a] g B l K n s (k+1)) 0=_
  unfold zy qby
  rw[if_pos (by simp),show idx [a] (0:Int)=some a from rfl]
  simp only[qBb,decide_eq_true_eq]
  rfl
 grind
theorem qtv {b c:Int}:qbM F g B l K [a,b,c] s=some (hcE a b c,a,b,c):=by
 unfold qbM
 rw[show idx [a,b,c] (0:Int)=some a from rfl,show idx [a,b,c] (1:Int)=some b from rfl,show idx [a,b,c] (2:Int)=some c from rfl]
 grind [qe0]
theorem qk9:∀ (m u:Nat),u<m→(Lib.decDigits u).length≤u+1
 | 0,_,h=>by omega
 | m+1,u,h=>by
  by_cases h1:u<10
  ·rw[dg1 h1];simp
  ·have:=qk9 m (u/10) (by omega)
   grind [dg2]
theorem qvr {v:Int}(h:-1≤v∧v≤1000000):∃ x,itoaC v=some x∧x.length≤2000000:=by
 refine ⟨_,if_pos (by omega),?_⟩
 unfold Lib.itoa
 split
 ·have:=qk9 _ v.natAbs (qDA _)
  simp[lB];omega
 ·have:=qk9 _ v.toNat (qDA _)
  simp[lB];omega
theorem qAU (hg:Gr g)(hh:hcE B l K=0):pkE g B l K=0∨pkE g B l K=8:=by
 unfold pkE
 rw[if_neg (by grind [jA]),if_neg (by omega)]
 omega
theorem qy0 {t:Nat}{f:Nat→Nat}(hf:∀ i j,i≤j→f i≤f j):∀ (m i last:Nat),last≤f i→(∀ j,j<i+m→f j≤t)→Up t last ((List.range' i m).map f)
 | 0,_,_,_,_=>trivial
 | m+1,i,last,h,ht=>by
  rw[List.range'_succ,List.map_cons]
  exact ⟨h,ht i (by omega),qy0 hf m (i+1) (f i) (hf _ _ (by omega)) fun j hj=>ht j (by omega)⟩
theorem qvV {g:List (qDU)}{B l:Int}{k:Nat}:∀ n,(pkA g B l k n).2.2=lc ((qBx n).map fun i=>(pkA g B l k i).1.length)
 | 0=>rfl
 | n+1=>by
  rw[pkA,qvV n]
  simp[lc,qDh]
theorem qAY (hg:Gr g)(hh:hcE B l K=0):shE g B l K=0∨shE g B l K=8:=by
 unfold shE
 rcases qAU hg hh with h | h
 ·obtain ⟨_,_,h3⟩:=qiF h
  have h1:=hg.1
  rw[if_neg (by omega)]
  unfold fwp
  rw[qvV,List.range_eq_range',(qnV (t:=(pkA g B l K.toNat g.length).1.length) (by omega) (by grind) (qy0 (fun i j h=>qhE h) g.length 0 0 (qBC _) fun j hj=>qhE (by omega))).2]
  split
  ·exact .inl rfl
  ·exact .inr rfl
 omega
def dkj (L:qDU):qDU:=(joinM (ls3 L) [32]).getD []
theorem qoG {n L:qDU}(hF:2000≤F)(hL:∀ x∈L,0≤x∧x<1000)(hm:L.length≤1000):jp F g B l K n s L=some (dkj L)∧(dkj L).length≤5000:=by
 obtain ⟨t,h1,h2,h3⟩:=qut (F:=F) (g:=g) (B:=B) (l:=l) (K:=K) (n:=n) (s:=s) hF hL hm
 grind [dkj]
theorem qAa {r:qDU}(hg:Gr g)(hr:r∈g):(∀ x∈r,0≤x∧x<1000)∧r.length≤1000:=by
 have h1:=hg.1
 have h2:=qdG hg hr
 refine ⟨fun x hx=>?_,by omega⟩
 have:=(hg.2.1 r hr).2 x hx
 omega
def findT (g:List (qDU))(a:Int):Int×qDU:=if a<g.length then (0,dkj (g.getD a.toNat [])) else (3,dkj [])
theorem qqL (hF:2000200≤F)(hg:Gr g)(hh:hcE B l K=0)(h0:0≤a):qba F g B l K [a] s=some (if shE g B l K=0 then findT g a else (8,s)):=by
 unfold qba qbx
 rw[qrn (by omega)]
 simp only[qBb]
 rcases qAY hg hh with h | h
 ·rw[qwx h,if_pos h]
  simp only
  rw[if_neg (by decide),show idx [a] (0:Int)=some a from rfl]
  simp only[qBb]
  have sf:=qyi h
  unfold findT
  by_cases ha:a<g.length
  ·obtain ⟨i,rfl⟩:=qBf h0
   grind [qxX,qAa,qoG]
  ·rw[if_neg ha,qvB hF sf (.inr (by omega))]
   simp only[qBb]
   rw[(qoG (by omega) (by simp) (by simp)).1]
   rfl
 grind [qon,shz]
def mayT (r:qDU×Int)(z:Int):Int×qDU:=if r.2=z then (0,[110,111,110,101]) else (r.2,dkj r.1)
theorem qkh {z:Int}{n:qDU}{r:qDU×Int}(hF:2000≤F)(hL:∀ x∈r.1,0≤x∧x<1000)(hm:r.1.length≤1000):vH F g B l K n s r.1 r.2 z=some (mayT r z):=by
 grind [vH,vU,mayT,qoG]
theorem qy8 {q:List Nat}{m:Nat}(h:∀ i∈q,i<m)(hm:m≤100):∀ x∈iz q,0≤x∧x<1000:=fun x hx=>by
 obtain ⟨i,hi,rfl⟩:=List.mem_map.1 hx
 grind
theorem qAu {ns:qDU}(hg:Gr g):wchk g ns=0∨wchk g ns=3:=by
 unfold wchk
 rw[if_neg (by grind [jA])]
 omega
theorem qAt (a b:Int)(hg:Gr g):((wayM g a b).2=0∨0<(wayM g a b).2∧(wayM g a b).2≤100)∧(∀ x∈(wayM g a b).1,0≤x∧x<1000)∧(wayM g a b).1.length≤1000:=by
 unfold wayM
 rcases qAu (ns:=[a,b]) hg with h | h
 ·rw[if_neg (by omega)]
  obtain ⟨_,⟨n,rfl,hn⟩,m,rfl,hm⟩:=wchk2 h
  rw[qBh,qBh]
  split
  ·simp
  ·rename_i hz
   have h1:=hg.1
   have hl:=qg5 g
   have hf:=qnS (qlZ hg) (s:=m) (by omega)
   have hlt:=hf.lt n (by omega)
   obtain ⟨k,hk⟩:=qBf (by omega:0≤gD (farL (tn g) m) n)
   rw[hk,qBh]
   have hw:=qxi g (farL (tn g) m) k n
   refine ⟨.inl rfl,qy8 (m:=g.length) (fun i hi=>?_) h1,by rw[qdj,hw];omega⟩
   obtain ⟨j,hj,he⟩:=List.mem_iff_getElem.1 hi
   have h2:=qxh hg hf k n j hk (by omega)
   rw[show (wy g (farL (tn g) m) k n).getD j 0=i from by grind] at h2
   refine Nat.lt_of_not_le fun hc=>?_
   rw[qqW (by rw[hf.len,hl];omega)] at h2
   omega
 simp_all
theorem qtw {b:Int}(hF:2000≤F)(hg:Gr g):qbN F g B l K [a,b] s=some (mayT (wayM g a b) 5):=by
 grind [qbN,qvo,qzu,qAt,qkh]
theorem qzJ (hg:Gr g):((ordR (ordL g)).2=0∨0<(ordR (ordL g)).2∧(ordR (ordL g)).2≤100)∧(∀ x∈(ordR (ordL g)).1,0≤x∧x<1000)∧(ordR (ordL g)).1.length≤1000:=by
 cases h:ordL g with
 | none=>grind [ordR]
 | some o =>
  have ho:=(qmW hg _ _ _ (qz2 g) h).1
  have h1:=hg.1
  have h2:=ho.len
  refine ⟨.inl rfl,qy8 ho.lt h1,by show (iz o).length≤_;rw[qdj];omega⟩
theorem qpj {n:qDU}(hF:4000≤F)(hg:Gr g):qav F g B l K n s=some (mayT (ordR (ordL g)) 4):=by
 grind [qav,quw,jA,qzJ,qkh]
def oneT (s L:qDU)(a:Int):Int×qDU:=if a<L.length then (0,dcI (gD L a.toNat)) else (3,s)
theorem qqM (hF:4000≤F)(hg:Gr g)(h0:0≤a):kF F g B l K [a] s=some (oneT s (spartL g) a):=by
 have hp:=qhU hg
 have h1:=hg.1
 unfold kF oneT
 rw[show idx [a] (0:Int)=some a from rfl]
 simp only[qBb]
 rw[known1 (by omega),hp.len]
 simp only[qBb]
 by_cases ha:a<g.length
 ·rw[decide_eq_true ha,if_neg (by simp),if_pos ha,qtY hF]
  simp only[qBb]
  unfold spartM
  rw[if_neg (by grind [jA])]
  obtain ⟨i,rfl⟩:=qBf h0
  have hi:i<g.length:=by omega
  have:=hp.le i hi
  rw[qo,qgT (by rw[hp.len];omega)]
  grind [qnR]
 simp_all
theorem qnL {n:qDU}(hF:200000≤F)(hg:Gr g):∃ t,itoaC ((th g).length:Int)=some t∧t.length≤2000000∧jR F g B l K n s=some (0,t):=by
 have:=qw9 hg
 obtain ⟨x,hx,hl⟩:=qvr (v:=((th g).length:Int)) (by omega)
 grind [jR,qus]
theorem e3:0<(3:Int)∧(3:Int)≤100:=by decide
theorem e1:0<(1:Int)∧(1:Int)≤100:=by decide
def wsN (k:qDU)(ns:qDU):qDU:=k++ns.flatMap fun n=>32::dcI n
theorem quY:∀ (ns k:qDU),(32:Int)∉k→(∀ n∈ns,0≤n∧n<1000)→cutI 32 (wsN k ns)=k::ns.map dcI
 | [],k,h,_=>by grind [wsN,quX]
 | n::ns,k,h,hn=>by
  have e:wsN k (n::ns)=k++32::wsN (dcI n) ns:=by rfl
  rw[e,qtA h,quY ns _ (qAI (hn n (qBp ..))) fun x hx=>hn x (qBt _ hx)]
  rfl
theorem qgI {k ns:qDU}(hk:By k)(hkl:k.length≤10)(hb:(32:Int)∉k)(hl:ns.length≤3)(hn:∀ n∈ns,0≤n∧n<1000):splitM (wsN k ns) [32]=some (k::ns.map dcI):=by
 rw[qt3 (by omega) ?_ ?_,quY ns k hb hn]
 ·intro x hx
  rcases qBg.1 hx with h | h
  ·exact hk x h
  ·obtain ⟨n,h1,h2⟩:=List.mem_flatMap.1 h
   rcases qBi.1 h2 with rfl | h2
   ·omega
   ·exact qAJ (hn n h1) x h2
 ·have:∀ ns:qDU,(∀ n∈ns,0≤n∧n<1000)→(ns.flatMap fun n=>32::dcI n).length≤4*ns.length:=fun ns=>by
   induction ns with
   | nil=>simp
   | cons n ns ih =>
    intro h
    have h1:=ih fun x hx=>h x (qBt _ hx)
    grind [qhw]
  grind [wsN]
theorem qql {F:Nat}{N:Int}{ns:qDU}(hl:ns.length≤3)(hn:∀ n∈ns,0≤n∧n<1000):∀ (j i k:Nat),i+j=ns.length→zN F N (ns.map dcI) (k+1+j) ((i:Int),ns.take i)=some (((ns.length:Int) == N),ns)
 | 0,i,k,h=>by
  grind [qw8,qBD]
 | j+1,i,k,h=>by
  have hi:i<ns.length:=by omega
  have e:ns[i]?=some ns[i]:=qBc hi
  have:=qur (F:=F) (k:=k+1+j) (N:=N) (ws:=ns.map dcI) (ns:=ns.take i) (i:=i) (hn _ (qBu hi)) (by simp_all) (by omega) (by grind)
  have e2:ns.take i++[ns[i]]=ns.take (i+1):=by simp
  rw[e2] at this
  exact this.trans (qql hl hn j (i+1) k (by omega))
theorem qh2 {ns:qDU}(hF:10≤F)(hl:ns.length≤3)(hN:(ns.length:Int)=N)(hn:∀ n∈ns,0≤n∧n<1000):qQ F g B l K [] s N (ns.map dcI)=some (true,ns):=by
 unfold qQ
 obtain ⟨k,rfl⟩:∃ k,F=k+1+ns.length:=⟨F-1-ns.length,by omega⟩
 have:=qql (F:=k+1+ns.length) (N:=N) hl hn ns.length 0 k (by omega)
 simp_all
def zE (z:Int×qDU)(g:List (qDU))(B l K:Int):DR:=dkE z.1 g B l K z.2
theorem qsc (hF:2000200≤F)(hg:Gr g)(hh:hcE B l K=0)(ha:0≤a∧a<1000) :
  zO F g B l K (wsN [108,105,115,116] [a])=some (zE (if shE g B l K=0 then findT g a else (8,[111,107])) g B l K):=by
 have hn:∀ n∈[a],0≤n∧n<1000:=by grind
 unfold zO
 rw[qgr (by omega) hg,qBb,qgI (by unfold By;decide) (by decide) (by decide) (by simp) hn,qBb]
 rw[show idx (([108,105,115,116]:qDU)::[a].map dcI) (0:Int)=some [108,105,115,116] from rfl,qBb,qe1,qBb]
 rw[if_neg (by decide),if_neg (by decide),if_neg (by decide),if_neg (by decide),if_neg (by decide),if_pos (by decide)]
 unfold qcg
 rw[qgB,qBb,qh2 (N:=1) (by omega) (by simp) rfl hn]
 simp only[qBb,if_true]
 rw[qqL hF hg hh ha.1,qBb,qjT]
 rfl
theorem qu2 {b:Int}(hF:2000200≤F)(hg:Gr g)(ha:0≤a∧a<1000)(hb:0≤b∧b<1000) :
  zO F g B l K (wsN [119,97,121] [a,b])=some (zE (mayT (wayM g a b) 5) g B l K):=by
 have hn:∀ n∈[a,b],0≤n∧n<1000:=by simp_all
 unfold zO
 rw[qgr (by omega) hg,qBb,qgI (by unfold By;decide) (by decide) (by decide) (by simp) hn,qBb]
 rw[show idx (([119,97,121]:qDU)::[a,b].map dcI) (0:Int)=some [119,97,121] from rfl,qBb,qe1,qBb]
 rw[if_neg (by decide),if_neg (by decide),if_neg (by decide),if_neg (by decide),if_neg (by decide),if_neg (by decide),if_neg (by decide),if_pos (by decide)]
 unfold qch
 rw[qgB,qBb,qh2 (N:=2) (by omega) (by simp) rfl hn]
 simp only[qBb,if_true]
 rw[qtw (by omega) hg,qBb,qjT]
 rfl
theorem qsd (hF:2000200≤F)(hg:Gr g)(ha:0≤a∧a<1000) :
  zO F g B l K (wsN [112,97,114,116] [a])=some (zE (oneT [111,107] (spartL g) a) g B l K):=by
 have hn:∀ n∈[a],0≤n∧n<1000:=by grind
 unfold zO
 rw[qgr (by omega) hg,qBb,qgI (by unfold By;decide) (by decide) (by decide) (by simp) hn,qBb]
 rw[show idx (([112,97,114,116]:qDU)::[a].map dcI) (0:Int)=some [112,97,114,116] from rfl,qBb,qe1,qBb]
 rw[if_neg (by decide),if_neg (by decide),if_neg (by decide),if_neg (by decide),if_neg (by decide),if_neg (by decide),if_neg (by decide),if_neg (by decide),if_pos (by decide)]
 unfold qci
 rw[qgB,qBb,qh2 (N:=1) (by omega) (by simp) rfl hn]
 simp only[qBb,if_true]
 rw[qqM (by omega) hg ha.1,qBb,qjT]
 rfl
theorem qpo (hF:2000200≤F)(hg:Gr g):zO F g B l K [111,114,100,101,114]=some (zE (mayT (ordR (ordL g)) 4) g B l K):=by
 have hs:=qgI (k:=[111,114,100,101,114]) (ns:=[]) (by unfold By;decide) (by decide) (by decide) (by simp) (by simp)
 unfold zO
 rw[qgr (by omega) hg,qBb,show ([111,114,100,101,114]:qDU)=wsN [111,114,100,101,114] [] from rfl,hs,qBb]
 rw[show idx (([111,114,100,101,114]:qDU)::[].map dcI) (0:Int)=some [111,114,100,101,114] from rfl,qBb,qe1,qBb]
 rw[if_neg (by decide),if_neg (by decide),if_neg (by decide),if_neg (by decide),if_neg (by decide),if_neg (by decide),if_neg (by decide),if_neg (by decide),if_neg (by decide),if_pos (by decide)]
 unfold qcj
 rw[qgB,qBb,qh2 (N:=0) (ns:=[]) (by omega) (by simp) rfl (by simp)]
 simp only[qBb,if_true]
 rw[qpj (by omega) hg,qBb,qjT]
 rfl
theorem qmH (hF:2000200≤F)(hg:Gr g):∃ t,itoaC ((th g).length:Int)=some t∧zO F g B l K [116,104,114,101,101,115]=some (zE (0,t) g B l K):=by
 obtain ⟨t,h1,h2,h3⟩:=qnL (F:=F) (B:=B) (l:=l) (K:=K) (n:=[]) (s:=[111,107]) (by omega) hg
 refine ⟨t,h1,?_⟩
 have hs:=qgI (k:=[116,104,114,101,101,115]) (ns:=[]) (by unfold By;decide) (by decide) (by decide) (by simp) (by simp)
 unfold zO
 rw[qgr (by omega) hg,qBb,show ([116,104,114,101,101,115]:qDU)=wsN [116,104,114,101,101,115] [] from rfl,hs,qBb]
 rw[show idx (([116,104,114,101,101,115]:qDU)::[].map dcI) (0:Int)=some [116,104,114,101,101,115] from rfl,qBb,qe1,qBb]
 rw[if_neg (by decide),if_neg (by decide),if_neg (by decide),if_neg (by decide),if_neg (by decide),if_neg (by decide),if_neg (by decide),if_neg (by decide),if_neg (by decide),if_neg (by decide),if_neg (by decide),if_pos (by decide)]
 unfold qck
 rw[qgB,qBb,qh2 (N:=0) (ns:=[]) (by omega) (by simp) rfl (by simp)]
 simp only[qBb,if_true]
 rw[h3,qBb,qjT]
 rfl
theorem qzK {b c:Int}(hF:2000200≤F)(hg:Gr g)(ha:0≤a∧a<1000)(hb:0≤b∧b<1000)(hc:0≤c∧c<1000) :
  zO F g B l K (wsN [104,111,119] [a,b,c])=some (dkE (hcE a b c) g a b c [111,107]):=by
 have hn:∀ n∈[a,b,c],0≤n∧n<1000:=by simp_all
 unfold zO
 rw[qgr (by omega) hg,qBb,qgI (by unfold By;decide) (by decide) (by decide) (by simp) hn,qBb]
 rw[show idx (([104,111,119]:qDU)::[a,b,c].map dcI) (0:Int)=some [104,111,119] from rfl,qBb,qe1,qBb]
 rw[if_neg (by decide),if_neg (by decide),if_neg (by decide),if_pos (by decide)]
 unfold qcf
 rw[qgB,qBb,qh2 (N:=3) (by omega) (by simp) rfl hn]
 simp only[qBb,if_true]
 grind [qtv,qjT]
theorem qgw {k:Nat}{B' l' K':Int}{w1 w2 w3:qDU}{i:Nat}{z z':Int×qDU}(hi:([w1,w2,w3,[111,114,100,101,114],[116,104,114,101,101,115]]:List (qDU))[i]?=some s)(h1:j1 F g B l K s=some (zE z g B l K))(h2:j1 F g B' l' K' s=some (zE z' g B' l' K'))(h:z=z'∨z.1=8∨z'.1=8) :
  qbv F g B l K g B' l' K' w1 w2 w3 (k+1) (i:Int)=qbv F g B l K g B' l' K' w1 w2 w3 k ((i+1:Nat):Int):=by
 show qe5 F g B l K g B' l' K' w1 w2 w3 (qbv F g B l K g B' l' K' w1 w2 w3 k) (i:Int)=_
 have hlt:=(qBv.1 hi).1
 unfold qe5
 rw[if_pos (decide_eq_true (by omega)),qo,hi,qBb,h1,qBb,h2,qBb]
 grind [zE,dkE,qce,qs,qkC]
theorem qnQ {b' l' k' b:Int}(hF:2000200≤F):qhm F g B l K b' l' k' a b=some true:=by
 unfold qhm
 have hbg:qdQ F=some true:=by obtain ⟨n,rfl⟩:∃ n,F=n+400:=⟨F-400,by omega⟩;exact qqJ n
 rw[hbg,qBb,if_neg (by decide)]
 split
 ·rfl
 rename_i hr
 simp only[qCE,decide_eq_true_eq,not_or,Int.not_lt] at hr
 obtain ⟨⟨⟨⟨⟨⟨⟨⟨⟨r1,r2⟩,r3⟩,r4⟩,r5⟩,r6⟩,r7⟩,r8⟩,r9⟩,r10⟩:=hr
 have q1:0≤b'∧b'<1000:=by omega
 have q2:0≤l'∧l'<1000:=by omega
 have q3:0≤k'∧k'<1000:=by omega
 have q4:0≤a∧a<1000:=by omega
 have q5:0≤b∧b<1000:=by omega
 have d1:=qhw q1
 have d2:=qhw q2
 have d3:=qhw q3
 have d4:=qhw q4
 have d5:=qhw q5
 rw[qi8 (by omega) q1,qBb,zU (by grind),qBb,zU (by grind),qBb,qi8 (by omega) q2,qBb,zU (by grind),qBb,zU (by grind),qBb,
  qi8 (by omega) q3,qBb,zU (by simp;omega),qBb]
 have ew:([104,111,119,32]:qDU)++dcI b'++[32]++dcI l'++[32]++dcI k'=wsN [104,111,119] [b',l',k']:=by simp[wsN]
 rw[ew]
 have hc:vu F g B l K=some (if gchk g≠0 then gchk g else hcE B l K):=qla (by omega) fun _=>qe0
 by_cases hz:(if gchk g≠0 then gchk g else hcE B l K)=0
 rotate_left
 ·rw[qzL hc hz,qBb]
  grind [qcL,qkC]
 have hg0:gchk g=0:=by
  omega
 rw[if_neg (by omega)] at hz
 have hg:=jA.1 hg0
 have hdo:∀ (B l K:Int) (s:qDU),hcE B l K=0→j1 F g B l K s=zO F g B l K s:=fun B l K s h=>qAL (by rw[qla (by omega) fun _=>qe0,if_neg (by omega),h])
 rw[hdo _ _ _ _ hz,qzK hF hg q1 q2 q3,qBb]
 unfold qcL dkE
 by_cases hh:hcE b' l' k'=0
 rotate_left
 ·grind [qkC]
 rw[if_neg (c:=hcE b' l' k'≠0) fun h'=>h' hh]
 dsimp only
 rw[if_neg (by decide),qi8 (by omega) q4,qBb,zU (by simp;omega),qBb,qBb,zU (by simp;omega),qBb,zU (by simp;omega),qBb,qi8 (by omega) q5,qBb,zU (by simp;omega),qBb,qBb,zU (by simp;omega),qBb]
 have e1:([108,105,115,116,32]:qDU)++dcI a=wsN [108,105,115,116] [a]:=by simp[wsN]
 have e2:([119,97,121,32]:qDU)++dcI a++[32]++dcI b=wsN [119,97,121] [a,b]:=by simp[wsN]
 have e3:([112,97,114,116,32]:qDU)++dcI a=wsN [112,97,114,116] [a]:=by simp[wsN]
 rw[e1,e2,e3]
 obtain ⟨n,rfl⟩:∃ n,F=n+6:=⟨F-6,by omega⟩
 have t1:=qgw (k:=n+5) (i:=0) (w1:=wsN [108,105,115,116] [a]) (w2:=wsN [119,97,121] [a,b]) (w3:=wsN [112,97,114,116] [a]) rfl ((hdo B l K _ hz).trans (qsc hF hg hz q4)) ((hdo b' l' k' _ hh).trans (qsc hF hg hh q4)) (by
  grind)
 have t2:=qgw (k:=n+4) (i:=1) (w1:=wsN [108,105,115,116] [a]) (w2:=wsN [119,97,121] [a,b]) (w3:=wsN [112,97,114,116] [a]) rfl ((hdo B l K _ hz).trans (qu2 hF hg q4 q5)) ((hdo b' l' k' _ hh).trans (qu2 hF hg q4 q5)) (.inl rfl)
 have t3:=qgw (k:=n+3) (i:=2) (w1:=wsN [108,105,115,116] [a]) (w2:=wsN [119,97,121] [a,b]) (w3:=wsN [112,97,114,116] [a]) rfl ((hdo B l K _ hz).trans (qsd hF hg q4)) ((hdo b' l' k' _ hh).trans (qsd hF hg q4)) (.inl rfl)
 have t4:=qgw (k:=n+2) (i:=3) (w1:=wsN [108,105,115,116] [a]) (w2:=wsN [119,97,121] [a,b]) (w3:=wsN [112,97,114,116] [a]) rfl ((hdo B l K _ hz).trans (qpo hF hg)) ((hdo b' l' k' _ hh).trans (qpo hF hg)) (.inl rfl)
 obtain ⟨t,it,x1⟩:=qmH (F:=n+6) (B:=B) (l:=l) (K:=K) hF hg
 obtain ⟨t',it',x2⟩:=qmH (F:=n+6) (B:=b') (l:=l') (K:=k') hF hg
 have et:t=t':=by simp_all
 subst et
 have t5:=qgw (k:=n+1) (i:=4) (w1:=wsN [108,105,115,116] [a]) (w2:=wsN [119,97,121] [a,b]) (w3:=wsN [112,97,114,116] [a]) rfl ((hdo B l K _ hz).trans x1) ((hdo b' l' k' _ hh).trans x2) (.inl rfl)
 refine t1.trans (t2.trans (t3.trans (t4.trans (t5.trans ?_))))
 rfl
end Go.Proofs.YthibchijlpflmaaGreatDoor
