/- Plain facts of what the functions of this seat compute, part 2. -/
import Derived.Test.YtlioijpkhffbnaaGreatPureLoad11
import Derived.KernelRfl
import Derived.Lib.SlicesCompact
open Bool renaming false_eq_true→qxZ, and_eq_true→qys, not_true→qyE, or_eq_true→qyZ, not_false→qzO, eq_false_iff→qz0
open Int renaming toNat_natCast→qxU, eq_ofNat_of_zero_le→qx0, tdiv_eq_ediv_of_nonneg→qyN, mul_le_mul_of_nonneg_right→qy5, tmod_eq_emod_of_nonneg→qzd, pow_succ→qzC, emod_eq_of_lt→qzM, ediv_le_self→qz4, mul_comm→qz7, toNat_of_nonneg→qAe, lt_of_lt_of_le→qAh, ediv_nonneg→qAr, add_mul→qAC
open List renaming length_append→qxQ, getElem?_eq_getElem→qxR, append_assoc→qxS, drop_eq_getElem_cons→qxT, mem_append→qxV, drop_eq_nil_of_le→qxW, length_cons→qxY, mem_cons→qx1, replicate→qx3, flatMap_cons→qx4, getElem?_eq_some_iff→qx5, nil_append→qx6, mem_cons_of_mem→qx7, drop_zero→qx8, getElem_mem→qx9, length_drop→qya, length_nil→qyc, length_take→qye, append_nil→qyh, getElem?_eq_none→qyi, mem_singleton→qyl, getD_eq_getElem?_getD→qyo, take_append_drop→qyA, length_map→qyG, mem_filter→qyR, cons_append→qyS, length_replicate→qyU, pairwise_cons→qyW, replicate_succ→qy3, take_add_one→qzu, drop_drop→qzB, filter_sublist→qzD, singleton_append→qzN, length_filter_le→qzP, drop_take→qzW, flatten_cons→qzZ, length_singleton→qz6, pairwise_append→qAa
open List.Perm renaming refl→qyB, append_left→qy6
open List.cons renaming injEq→qzq, inj→qAi
open Nat renaming le_refl→qyb, add_sub_cancel→qym, zero_le→qyn, zero_add→qyI, add_assoc→qyM, add_zero→qyP, sub_zero→qy9, add_sub_cancel_left→qzY, lt_irrefl→qAw
open Option renaming bind_some→qxP, bind_eq_some_iff→qyz, map_bind→qAs
open Option.some renaming injEq→qx2, inj→qzp
open Prod renaming ext→qAn
open Prod.mk renaming injEq→qzs
namespace Go.Proofs.YtlioijpkhffbnaaGreat
open Go SX
variable {F:Nat} {rec68:(List (Int×Int)×qAE×Int)→Option (List (Int×Int)×qAE)} {l:qAE} {least:Int} {o:List (Int×Int)} {rest:qAE} {i:Int}
def encBs:Bool→qAE→qAE
 | _,[]=>[]
 | b,n::bs=>ga (n-if b then 1 else 0).toNat++encBs true bs
def encB (bs:qAE):qAE:=ga bs.length++encBs false bs
theorem qtG (i:Nat):imin (i:Int) 1=if 0<i then 1 else 0:=by
 unfold imin
 by_cases h:0<i
 ·rw[if_pos h]
  by_cases h2:i=1
  ·subst h2;simp
  ·rw[if_pos (by omega)]
 ·rw[if_neg h,if_neg (by omega)];omega
theorem qmP {F:Nat}(hF:20000≤F){bs:qAE}(hm:bs.length≤1000):∀ (k i:Nat) (l:qAE) (f:Bool) (S:qAE),bs.length<k+i→i≤bs.length→Rep l f S→okB (!decide (0<i)) (bs.drop i)=true→(∀ n∈bs,n≤1000000) →
  Wr (kf F bs k ((i:Int),(l.length:Int),pk l,f)) (S++encBs (decide (0<i)) (bs.drop i))
 | 0,_,_,_,_,_,_,_,_,_=>by omega
 | k+1,i,l,f,S,h,hi,hr,hok,hb=>by
  show Wr (y8 F bs (kf F bs k) (i:Int) (l.length:Int) (pk l) f) _
  unfold y8
  by_cases hlt:i<bs.length
  ·rw[qxT hlt,qgx] at hok
   simp only[qys,qyZ,decide_eq_true_eq,Bool.not_eq_true',decide_eq_false_iff_not] at hok
   have hn:=hb bs[i] (qx9 hlt)
   rw[if_pos (by simp;omega),qs,qxR hlt,qxT hlt,qtG]
   simp only[qxP]
   have e1:isub .i64 bs[i] (if 0<i then 1 else 0)=bs[i]-(if decide (0<i)=true then 1 else 0):=by
    by_cases h0:0<i
    ·rw[if_pos h0,if_pos (by simpa using h0),qG (by omega) (by omega)]
    ·rw[if_neg h0,if_neg (by simpa using h0),qG (by omega) (by omega)]
   rw[e1]
   obtain ⟨l',f',e,h'⟩:=qen hF hr (n:=bs[i]-(if decide (0<i)=true then 1 else 0)) (by split <;> rename_i h0 <;> simp at h0 <;> omega) (by split <;> omega)
   rw[e]
   simp only[qxP]
   rw[qw (by omega)]
   refine qjn (qmP hF hm k (i+1) l' f' _ (by omega) (by omega) h' (by simpa using hok.2) hb) ?_
   rw[qxS]
   simp[encBs]
  ·rw[if_neg (by simp;omega),qxW (by omega)]
   exact ⟨l,f,rfl,by simpa[encBs] using hr⟩
theorem qqR {F:Nat}(hF:20000≤F){bs l S:qAE}{f:Bool}(hm:bs.length≤1000)(hr:Rep l f S)(hok:okB true bs=true)(hb:∀ n∈bs,n≤1000000):Wr (jE F (l.length:Int) (pk l) f bs) (S++encB bs):=by
 unfold jE
 obtain ⟨l',f',e,h'⟩:=qen hF hr (n:=(bs.length:Int)) (by omega) (by omega)
 rw[e]
 simp only[qxP]
 refine qjn (qmP hF hm F 0 l' f' _ (by omega) (by omega) h' (by simpa using hok) hb) ?_
 simp[encB]
def encRs (least:Int):Bool→Int→List (Int×Int)→qAE
 | _,_,[]=>[]
 | b,a,r::R=>ga (if b then r.1-a-2 else foldOf (r.1-a)).toNat++(ga (r.2-least).toNat++encRs least true (r.1+r.2-1) R)
def encR (least node:Int)(R:List (Int×Int)):qAE:=ga R.length++encRs least false node R
theorem qfD {x:Int}(h:-2000000≤x∧x≤2000000):0≤foldOf x∧foldOf x≤4000001:=by unfold foldOf;split <;> omega
theorem qsb {F:Nat}(hF:20000≤F){R:List (Int×Int)}{least:Int}(hm:R.length≤300)(hR:∀ r∈R,RunOk r∧least≤r.2)(hle:0≤least):∀ (k i:Nat) (a:Int) (l:qAE) (f:Bool) (S:qAE),R.length<k+i→i≤R.length→Rep l f S→Nd a→(∃ q,Sep q (R.drop i)∧(0<i→a+1≤q)) →
  Wr (zH F least R k (a,(i:Int),(l.length:Int),pk l,f)) (S++encRs least (decide (0<i)) a (R.drop i))
 | 0,_,_,_,_,_,_,_,_,_,_=>by omega
 | k+1,i,a,l,f,S,h,hi,hr,ha,hs=>by
  show Wr (vW F least R (zH F least R k) a (i:Int) (l.length:Int) (pk l) f) _
  unfold vW
  by_cases hlt:i<R.length
  ·obtain ⟨hro,hrl⟩:=hR R[i] (qx9 hlt)
   unfold RunOk at hro
   unfold Nd at ha
   rw[if_pos (by simp;omega),qs,qxR hlt,qxT hlt]
   simp only[qxP]
   have hj:∀ {l':qAE} {f':Bool} {S':qAE},Rep l' f' S'→S'=S++ga (if decide (0<i)=true then R[i].1-a-2 else foldOf (R[i].1-a)).toNat→Sep (R[i].1+R[i].2) (R.drop (i+1)) →
     Wr (yw F (zH F least R k) least (i:Int) R[i] (l'.length:Int) (pk l') f') (S++encRs least (decide (0<i)) a (R[i]::R.drop (i+1))):=by
    intro l' f' S' hr' hS hsep
    unfold yw
    rw[qG (by omega) (by omega)]
    obtain ⟨l2,f2,e,h2⟩:=qen hF hr' (n:=R[i].2-least) (by omega) (by omega)
    rw[e]
    simp only[qxP]
    rw[qks (by omega) (by omega),qw (by omega)]
    refine qjn (qsb hF hm hR hle k (i+1) (R[i].1+R[i].2-1) l2 f2 _ (by omega) (by omega) h2 (by unfold Nd;omega) ⟨_,hsep,fun _=>by omega⟩) ?_
    rw[hS];simp[encRs,qxS]
   obtain ⟨q,hsp,hq⟩:=hs
   rw[qxT hlt] at hsp
   obtain ⟨h1,h2,h3⟩:=hsp
   by_cases h0:0<i
   ·have hq':=hq h0
    have e3:isub .i64 R[i].1 a=R[i].1-a:=qG (by omega) (by omega)
    rw[if_neg (by simp;omega),e3,qG (by omega) (by omega)]
    obtain ⟨l',f',e,h'⟩:=qen hF hr (n:=R[i].1-a-2) (by omega) (by omega)
    rw[e]
    simp only[qxP]
    exact hj h' (by rw[if_pos (by simpa using h0)]) h3
   ·obtain rfl:i=0:=by omega
    have hf:=qfD (x:=R[0].1-a) (by omega)
    rw[if_pos (by simp),qG (by omega) (by omega),qrf F (by omega) (by omega)]
    simp only[qxP]
    rw[show iconv .i64 (foldOf (R[0].1-a))=foldOf (R[0].1-a) from qL (by omega) (by omega)]
    obtain ⟨l',f',e,h'⟩:=qen hF hr (n:=foldOf (R[0].1-a)) (by omega) (by omega)
    rw[e]
    simp only[qxP]
    exact hj h' (by rw[if_neg (by simp)]) h3
  ·rw[if_neg (by simp;omega),qxW (by omega)]
   exact ⟨l,f,rfl,by simpa[encRs] using hr⟩
theorem qvc {F:Nat}(hF:20000≤F){R:List (Int×Int)}{least node q:Int}{l S:qAE}{f:Bool}(hm:R.length≤300)(hR:∀ r∈R,RunOk r∧least≤r.2)(hle:0≤least)(hr:Rep l f S)(hn:Nd node)(hs:Sep q R) :
  Wr (qaP F (l.length:Int) (pk l) f node least R) (S++encR least node R):=by
 unfold qaP
 obtain ⟨l',f',e,h'⟩:=qen hF hr (n:=(R.length:Int)) (by omega) (by omega)
 rw[e]
 simp only[qxP]
 refine qjn (qsb hF hm hR hle F 0 node l' f' _ (by omega) (by omega) h' hn ⟨q,by simpa using hs,by omega⟩) ?_
 simp[encR]
theorem qhD:∀ {bs:qAE} {f:Bool},okB f bs=true→∀ n∈bs,n≤bsum bs
 | [],_,_,n,h=>by simp at h
 | x::bs,f,h,n,hn=>by
  rw[qgx] at h
  simp only[qys] at h
  have h0:=qky h.2
  have hx:0≤x:=by simpa using h.1.1
  have hb:bsum (x::bs)=x+bsum bs:=rfl
  rcases qx1.1 hn with rfl | hn
  ·omega
  ·have:=qhD h.2 n hn;omega
def encO (rest:qAE)(least:Int):List (Int×Int):=if 0<least then spO least (rs rest) else []
def encS (rest:qAE)(least:Int):qAE:=if 0<least then flat (spS least (rs rest)) else rest
def encL (node:Int)(rest:qAE)(least:Int)(k:Nat):qAE :=
 if rest=[] then [] else (if 0<least then encR least node (encO rest least) else [])++zes k (gp false node (encS rest least))
def rstO (l fr:qAE)(back:Int):qAE:=if 0<back then rst fr l else l
def enc (node:Int)(l fr:qAE)(back least:Int)(k:Nat):qAE :=
 ga l.length++if l=[] then [] else (if 0<back then encB (tbs fr l) else [])++encL node (rstO l fr back) least k
theorem qvO {F:Nat}(hF:200000≤F){a l:qAE}(ha:gkc a=0)(hl:gkc l=0):qfY F a l=some (tbs a l,rst a l):=by
 obtain ⟨h1,h2⟩:=zn.1 ha
 obtain ⟨h3,h4⟩:=zn.1 hl
 have:=qqt hF (jO h2).1 (jO h4).1 h1 h3 F 0 [] true 0 (by omega) (by omega) (by simp) (by omega)
 rw[qx8,qx6] at this
 unfold qfY
 rw[show ((0:Nat):Int)=0 from rfl] at this
 rw[this]
 rfl
theorem qpR {F k:Nat}(hF:20000≤F)(h1:1≤k)(h2:k≤16){l S rest:qAE}{f:Bool}{node q:Int}(hr:Rep l f S)(hn:Nd node)(hm:rest.length≤300)(hs:Ris q rest) :
  Wr (yu F node (k:Int) rest (l.length:Int) (pk l) f) (S++zes k (gp false node rest)):=by
 unfold yu
 have h40:L40 (gp false node rest):=fun x hx=>by have:=ql6 hn hs (by simp) x hx;omega
 have hp:=qvv (F:=F) (l:=[]) hF h1 h2 h40 (by rw[qdX];omega) (by intro x hx;simp at hx) (by simp)
 simp only[qx6,qyc] at hp
 rw[qrr hF hm hn hs]
 simp only[qxP]
 rw[show qdm F 0 ([]:qAE) (gp false node rest) (k:Int)=_ from hp]
 simp only[qxP]
 unfold yv
 by_cases hb:(zes k (gp false node rest)).length≤8192
 ·rw[if_pos hb]
  simp only[qyE,Bool.or_false]
  obtain ⟨l',f',e,h'⟩:=qog hF hr (qsc k _) hb
  rw[e]
  exact ⟨l',f',rfl,h'⟩
 ·rw[if_neg hb]
  simp only[qzO,Bool.or_true]
  have hr':=qui hr (k:=zes k (gp false node rest)) (by simp;omega)
  obtain ⟨l',f',e,h'⟩:=qog hF hr' (k:=[]) (by intro x hx;simp at hx) (by simp)
  have e':yZ F (l.length:Int) (pk l) true 0 []=some ((l'.length:Int),pk l',f'):=e
  rw[e']
  exact ⟨l',f',rfl,by simpa using h'⟩
theorem qmR {F k:Nat}(hF:2000000≤F)(h1:1≤k)(h2:k≤16){l S rest:qAE}{f:Bool}{node least:Int}(hr:Rep l f S)(hn:Nd node)(hg:gkc rest=0)(_hle:least=0∨2≤least∧least≤300) :
  Wr (yr F node least (k:Int) rest (l.length:Int) (pk l) f) (S++encL node rest least k):=by
 obtain ⟨hm,hs⟩:=zn.1 hg
 unfold yr encL encO encS
 by_cases h0:rest=[]
 ·subst h0
  exact ⟨l,f,rfl,by simpa using hr⟩
 ·have hlen:rest.length≠0:=by simpa using h0
  rw[if_neg (by simp;exact h0),if_neg h0]
  by_cases hl:0<least
  ·rw[if_pos (by simpa using hl),if_pos hl,if_pos hl,if_pos hl,qqz hF hm hs]
   simp only[qxP]
   obtain ⟨s1,s2⟩:=qn2 (least:=least) hm hs
   obtain ⟨r1,r2⟩:=qms hm hs
   obtain ⟨l',f',e,h'⟩:=qvc (F:=F) (R:=spO least (rs rest)) (least:=least) (node:=node) (q:=-1) (by omega) s1 (fun r hr=>⟨r2 r (qyR.1 hr).1,by simpa using (qyR.1 hr).2⟩) (by omega) hr hn (qds _ r1)
   rw[e]
   simp only[qxP]
   refine qjn (qpR (by omega) h1 h2 h' hn s2 (qj1 hs _)) ?_
   rw[qxS]
  ·rw[if_neg (by simpa using hl),if_neg hl,if_neg hl,qx6]
   exact qpR (by omega) h1 h2 hr hn hm hs
theorem qiS {a l:qAE}(h:gkc l=0):gkc (rst a l)=0:=qv3 h qzD
theorem qpS {F k:Nat}(hF:2000000≤F)(h1:1≤k)(h2:k≤16){x fr:qAE}{node back least:Int}(hn:Nd node)(hg:gkc x=0)(hfr:0<back→gkc fr=0)(hle:least=0∨2≤least∧least≤300) :
  Wr (vQ F 0 [] false node x fr back least (k:Int)) (enc node x fr back least k):=by
 obtain ⟨hm,hs⟩:=zn.1 hg
 unfold vQ enc rstO
 obtain ⟨l,f,e,hr⟩:=qen (F:=F) (by omega) qvT (n:=(x.length:Int)) (by omega) (by omega)
 rw[show zd F 0 ([]:qAE) false (x.length:Int)=_ from e]
 simp only[qxP,qx6,qxU] at hr ⊢
 by_cases h0:x=[]
 ·subst h0
  rw[if_pos (by simp),if_pos rfl]
  exact ⟨l,f,rfl,by simpa using hr⟩
 ·rw[if_neg (by simpa using h0),if_neg h0]
  by_cases hb:0<back
  ·have hfg:=hfr hb
   have hfl:=(zn.1 hfg).1
   rw[if_pos (by simpa using hb),if_pos hb,if_pos hb,qvO (by omega) hfg hg]
   simp only[qxP]
   have htl:=qhR fr x
   have hok:okB true (tbs fr x)=true:=qhe _ _ _ _ (by omega) (Or.inl rfl)
   have hsum:bsum (tbs fr x)≤0+(fr.map (hasB x)).length:=qf0 _ _ _ (by omega)
   rw[qyG] at hsum
   have hbd:∀ n∈tbs fr x,n≤1000000:=fun n hnm=>by
    have:=qhD hok n hnm
    omega
   obtain ⟨l',f',e',h'⟩:=qqR (F:=F) (bs:=tbs fr x) (by omega) (by omega) hr hok hbd
   rw[e']
   simp only[qxP]
   refine qjn (qmR hF h1 h2 h' hn (qiS hg) hle) ?_
   rw[qxS]
  ·rw[if_neg (by simpa using hb),if_neg hb,if_neg hb,qx6]
   exact qmR hF h1 h2 hr hn hg hle
def rgam (l:qAE)(p:Nat)(most:Int):Option (Int×Nat):=if (fg l p).2.2=0∧(fg l p).1≤most then some ((fg l p).1,(fg l p).2.1.toNat) else none
def Rd {α:Type}(l:qAE)(m:Option ((α×Int×Int) ⊕ (Int×Int)))(o:Option (α×Nat)):Prop :=
 match o with
 | none=>∃ z,m=some (.inr z)
 | some x=>m=some (.inl (x.1,(l.length:Int),(x.2:Int)))
theorem vY {l:qAE}{p:Nat}{most:Int}{x:Int×Nat}(h:rgam l p most=some x):0≤x.1∧x.1≤most∧x.1≤1099511627776∧x.2≤l.length:=by
 unfold rgam at h
 split at h
 ·rename_i hc
  rcases ql0 (l:=l) (a:=p) with h1 | ⟨n,q,h1,h2,h3⟩
  ·exact absurd hc.1 h1
  ·simp only[qx2] at h
   subst h
   rw[h1] at hc ⊢
   simp only at hc ⊢
   omega
 ·simp at h
theorem qw0 {F:Nat}:ym F true=some (.inl ()):=rfl
theorem qtO {F:Nat}:ym F false=some (.inr ()):=rfl
theorem qhG {F:Nat}(hF:20000≤F){l:qAE}(hl:Bit l)(hm:l.length≤8192){p:Nat}(hp:p≤l.length){most:Int}(h0:0≤most)(h1:most≤1000000000):Rd l (zJ F (l.length:Int) (pk l) (p:Int) most) (rgam l p most):=by
 obtain ⟨mo,rfl⟩:=qx0 h0
 unfold zJ rgam
 rw[qiF hF hl hm hp]
 simp only[qxP]
 rw[kn (by omega)]
 rcases ql0 (l:=l) (a:=p) with h2 | ⟨n,q,h2,h3,h4⟩
 ·rw[if_neg (fun h=>h2 h.1),show ((fg l p).2.2 == 0 && decide ((fg l p).1≤(mo:Int)))=false from by simp[h2],qtO]
  exact ⟨_,rfl⟩
 ·rw[h2]
  simp only[true_and,beq_self_eq_true,Bool.true_and]
  by_cases hc:(n:Int)≤mo
  ·rw[if_pos hc,decide_eq_true hc,qw0]
   show _=_
   simp only[lbnd,qxP,qxU]
   rw[jF (by omega)]
  ·rw[if_neg hc,decide_eq_false hc,qtO]
   exact ⟨_,rfl⟩
theorem qf4 {α β:Type}{l:qAE}{m:Option ((α×Int×Int) ⊕ (Int×Int))}{o:Option (α×Nat)}{k:α×Int×Int→Option ((β×Int×Int) ⊕ (Int×Int))}{kl:Int×Int→Option ((β×Int×Int) ⊕ (Int×Int))}{g:α×Nat→Option (β×Nat)}
  (h:Rd l m o) (hk:∀ x,o=some x→Rd l (k (x.1,(l.length:Int),(x.2:Int))) (g x)) (hkl:∀ z,∃ z',kl z=some (.inr z')):Rd l (lbnd m k kl) (o.bind g):=by
 cases o with
 | none =>
  obtain ⟨z,h⟩:=h
  rw[h]
  exact hkl z
 | some x =>
  have h':m=some (.inl (x.1,(l.length:Int),(x.2:Int))):=h
  rw[h']
  exact hk x rfl
def rbl (l:qAE)(many:Int):Nat→Bool→Nat→Option (qAE×Nat)
 | 0,_,p=>some ([],p)
 | k+1,b,p=>(rgam l p many).bind fun g=>(rbl l many k true g.2).bind fun r=>some ((g.1+if b then 1 else 0)::r.1,r.2)
def rblk (l:qAE)(p:Nat)(many:Int):Option (qAE×Nat):=(rgam l p (many+1)).bind fun g=>rbl l many g.1.toNat false g.2
theorem qnU {l:qAE}{many:Int}:∀ {k:Nat} {b:Bool} {p:Nat} {r:qAE×Nat},p≤l.length→rbl l many k b p=some r→r.1.length=k∧r.2≤l.length
 | 0,_,p,r,hp,h=>by simp only[rbl,qx2] at h;subst h;exact ⟨rfl,hp⟩
 | k+1,b,p,r,hp,h=>by
  simp only[rbl,qyz,qx2] at h
  obtain ⟨g,h1,r',h2,rfl⟩:=h
  have h3:=qnU (vY h1).2.2.2 h2
  simp[h3.1,h3.2]
theorem qrC {α:Type}{lim n:Nat}{y:α}(h:n≤lim):mk lim y (n:Int)=some (qx3 n y):=by
 unfold mk
 rw[if_pos ⟨by omega,by omega⟩,qxU]
theorem quA {α:Type}{o r:List α}{x y:α}:(o++x::r).set o.length y=o++y::r:=by
 rw[List.set_append_right _ _ (qyb _)];simp
theorem qnC {α:Type}{o r:List α}{x:α}:idx (o++x::r) (o.length:Int)=some x:=by
 rw[qs];simp
theorem qmm {F:Nat}(hF:20000≤F){l:qAE}(hl:Bit l)(hm:l.length≤8192){many:Int}(h0:0≤many)(h1:many≤1000000){w:qAE}(hw:w.length≤1000000):∀ (k:Nat) (o:qAE) (p:Nat),w.length<k+o.length→o.length≤w.length→p≤l.length →
  Rd l (ke F (pk l) many w k (o++qx3 (w.length-o.length) 0,(o.length:Int),(l.length:Int),(p:Int)))
   ((rbl l many (w.length-o.length) (decide (0<o.length)) p).map fun r=>(o++r.1,r.2))
 | 0,_,_,_,_,_=>by omega
 | k+1,o,p,h,ho,hp=>by
  show Rd l (yY F (pk l) many w (ke F (pk l) many w k) (o++qx3 (w.length-o.length) 0) (o.length:Int) (l.length:Int) (p:Int)) _
  unfold yY
  by_cases hlt:o.length<w.length
  ·rw[if_pos (by simpa using hlt)]
   obtain ⟨d,hd⟩:∃ d,w.length-o.length=d+1:=⟨w.length-o.length-1,by omega⟩
   rw[hd]
   unfold rbl
   rw[qy3,qAs]
   refine qf4 (qhG hF hl hm hp h0 (by omega)) (fun g hg=>?_) (fun z=>⟨_,rfl⟩)
   have hok:=vY hg
   rw[qnC,qxU,quA]
   simp only[qxP,lett,Function.comp]
   rw[qtG,qA (by split <;> omega) (by split <;> omega),qw (by omega)]
   have e:w.length-(o++[g.1+if 0<o.length then 1 else 0]).length=d:=by simp;omega
   have:=qmm hF hl hm h0 h1 hw k (o++[g.1+if 0<o.length then 1 else 0]) g.2 (by simp;omega) (by simp;omega) hok.2.2.2
   rw[e] at this
   simp only[qxS,qzN,qxQ,qz6] at this
   rw[show decide (0<o.length+1)=true from by simp] at this
   have h9:((rbl l many d true g.2).bind fun r=>some ((g.1+if decide (0<o.length)=true then 1 else 0)::r.1,r.2)).map (fun r=>(o++r.1,r.2))=(rbl l many d true g.2).map fun r=>(o++(g.1+if 0<o.length then 1 else 0)::r.1,r.2):=by
    cases rbl l many d true g.2 <;> simp
   rw[h9]
   exact this
  ·rw[if_neg (by simp;omega),show w.length-o.length=0 from by omega]
   show _=_
   simp[qak]
theorem qpo {F:Nat}(hF:20000≤F){l:qAE}(hl:Bit l)(hm:l.length≤8192){many:Int}(h0:0≤many)(h1:many≤1000){p:Nat}(hp:p≤l.length):Rd l (jD F (l.length:Int) (pk l) (p:Int) many) (rblk l p many):=by
 unfold jD rblk
 rw[qA (by omega) (by omega)]
 refine qf4 (qhG hF hl hm hp (by omega) (by omega)) (fun g hg=>?_) (fun z=>⟨_,rfl⟩)
 have hok:=vY hg
 obtain ⟨n,hn⟩:=qx0 hok.1
 rw[hn,qrC (by omega)]
 simp only[qxP,qxU]
 have:=qmm hF hl hm h0 (by omega) (w:=qx3 n 0) (by simp;omega) F [] g.2 (by simp;omega) (by simp) hok.2.2.2
 simp only[qyU,qyc,qy9,qx6] at this
 rw[show decide (0<0)=false from rfl] at this
 have h9:(rbl l many n false g.2).map (fun r=>(r.1,r.2))=rbl l many n false g.2:=by cases rbl l many n false g.2 <;> rfl
 rw[h9] at this
 exact this
theorem qhY {x:qAE}{xs:List (qAE)}{i:Nat}(h:xs[i]?=some x):(xs.drop i).flatten=x++(xs.drop (i+1)).flatten:=by
 have hlt:=(qx5.1 h).1
 rw[qxT hlt,qzZ]
 rw[qxR hlt] at h
 simp only[qx2] at h
 rw[h]
theorem qlV {F:Nat}{xs:List (qAE)}(hm:xs.length≤1000):∀ (k i:Nat) (o:qAE),xs.length<k+i→i≤xs.length→o.length+(xs.drop i).flatten.length≤1000000 →
  qS F xs k (o,(i:Int))=some (o++(xs.drop i).flatten)
 | 0,_,_,_,_,_=>by omega
 | k+1,i,o,h,hi,ho=>by
  show qM F xs (qS F xs k) o (i:Int)=_
  unfold qM
  by_cases hlt:i<xs.length
  ·have hg:=qxR hlt
   have hf:=qhY hg
   rw[hf,qxQ] at ho
   rw[if_pos (by simpa using hlt),qs,hg,hf]
   simp only[qxP]
   rw[qD (by omega),qw (by omega)]
   simp only[qxP]
   rw[qlV hm k (i+1) _ (by omega) (by omega) (by rw[qxQ];omega),qxS]
  ·rw[if_neg (by simp;omega),qxW (by omega)]
   simp[vN]
theorem qlW {F:Nat}(hF:20000≤F){xs:List (qAE)}(hm:xs.length≤1000)(ht:xs.flatten.length≤1000000):∀ (k i n:Nat),xs.length<k+i→i≤xs.length→n+(xs.drop i).flatten.length=xs.flatten.length →
  qT F xs k ((n:Int),(i:Int))=some xs.flatten
 | 0,_,_,_,_,_=>by omega
 | k+1,i,n,h,hi,hn=>by
  show qN F xs (qT F xs k) (n:Int) (i:Int)=_
  unfold qN
  by_cases hlt:i<xs.length
  ·have hg:=qxR hlt
   have hf:=qhY hg
   rw[hf,qxQ] at hn
   rw[if_pos (by simpa using hlt),qs,hg]
   simp only[qxP]
   rw[jN (by omega),if_neg (by simp;omega),qw (by omega)]
   exact qlW hF hm ht k (i+1) _ (by omega) (by omega) (by omega)
  ·rw[if_neg (by simp;omega)]
   rw[qxW (by omega)] at hn
   simp only[List.flatten_nil,qyc] at hn
   unfold km
   rw[qrs (by omega)]
   simp only[qxP]
   have:=qlV (F:=F) hm F 0 [] (by omega) (by omega) (by simpa using ht)
   simpa using this
theorem qp9 {F:Nat}(hF:20000≤F){a b c:qAE}(h:a.length+(b.length+c.length)≤1000000):zN F [a,b,c]=some (a++(b++c)):=by
 have:=qlW (F:=F) hF (xs:=[a,b,c]) (by simp) (by simpa using h) F 0 0 (by simp;omega) (by simp) (by simp)
 simp only[qzZ,List.flatten_nil,qyh] at this
 exact this
theorem qvY {F:Nat}{a:qAE}(h:a.length≤1000000):zF F a=some (srt a):=by
 unfold zF
 rw[if_pos (by omega)]
def rrn (l:qAE)(least many:Int):Nat→Bool→Int→Nat→Option (List (Int×Int)×Nat)
 | 0,_,_,p=>some ([],p)
 | k+1,b,a,p=>(rgam l p 2097152).bind fun g=>(rgam l g.2 many).bind fun x =>
   (rrn l least many k true (a+(if b then g.1+2 else q8 g.1)+(x.1+least)-1) x.2).bind fun r=>some ((a+(if b then g.1+2 else q8 g.1),x.1+least)::r.1,r.2)
def rrns (l:qAE)(p:Nat)(node least many:Int):Option (List (Int×Int)×Nat):=(rgam l p (many/least)).bind fun g=>rrn l least many g.1.toNat false node g.2
theorem qnZ {l:qAE}{least many:Int}:∀ {k:Nat} {b:Bool} {a:Int} {p:Nat} {r:List (Int×Int)×Nat},p≤l.length→rrn l least many k b a p=some r→r.1.length=k∧r.2≤l.length
 | 0,_,_,p,r,hp,h=>by simp only[rrn,qx2] at h;subst h;exact ⟨rfl,hp⟩
 | k+1,b,a,p,r,hp,h=>by
  simp only[rrn,qyz,qx2] at h
  obtain ⟨g,h1,x,h2,r',h3,rfl⟩:=h
  have h4:=qnZ (vY h2).2.2.2 h3
  simp[h4.1,h4.2]
theorem qoe {g:Int}(h0:0≤g)(h:g≤2097152):-1048577≤q8 g∧q8 g≤1048576:=by unfold q8;split <;> omega
theorem qrW {F:Nat}(hF:20000≤F){l:qAE}(hl:Bit l)(hm:l.length≤8192){least many:Int}(h0:0≤many)(h1:many≤300)(h2:2≤least)(h3:least≤300){w:List (Int×Int)}(hw:w.length≤1000):∀ (k:Nat) (o:List (Int×Int)) (a:Int) (p:Nat),w.length<k+o.length→o.length≤w.length→p≤l.length→(-3000000*((o.length:Int)+1)≤a∧a≤3000000*((o.length:Int)+1)) →
  Rd l (zx F (pk l) least many w k (o++qx3 (w.length-o.length) (0,0),a,(o.length:Int),(l.length:Int),(p:Int)))
   ((rrn l least many (w.length-o.length) (decide (0<o.length)) a p).map fun r=>(o++r.1,r.2))
 | 0,_,_,_,_,_,_,_=>by omega
 | k+1,o,a,p,h,ho,hp,ha=>by
  show Rd l (vm F (pk l) least many w (zx F (pk l) least many w k) (o++qx3 (w.length-o.length) (0,0)) a (o.length:Int) (l.length:Int) (p:Int)) _
  unfold vm
  by_cases hlt:o.length<w.length
  ·rw[if_pos (by simpa using hlt)]
   obtain ⟨d,hd⟩:∃ d,w.length-o.length=d+1:=⟨w.length-o.length-1,by omega⟩
   rw[hd]
   unfold rrn
   rw[qy3,qAs]
   refine qf4 (qhG hF hl hm hp (by omega) (by omega)) (fun g hg=>?_) (fun z=>⟨_,rfl⟩)
   have hok:=vY hg
   have hun:=qoe hok.1 hok.2.1
   have hj:∀ (s:Int),s=a+(if decide (0<o.length)=true then g.1+2 else q8 g.1) →
     Rd l (yg F (zx F (pk l) least many w k) (pk l) least many (o++(0,0)::qx3 d (0,0)) (o.length:Int) (g.1,(l.length:Int),(g.2:Int)) s)
      (Option.map (fun r=>(o++r.1,r.2)) ((rgam l g.2 many).bind fun x=>(rrn l least many d true (a+(if decide (0<o.length)=true then g.1+2 else q8 g.1)+(x.1+least)-1) x.2).bind fun r=>some ((a+(if decide (0<o.length)=true then g.1+2 else q8 g.1),x.1+least)::r.1,r.2))):=by
    intro s hs
    rw[← hs]
    have hsb:-3000000*((o.length:Int)+1)-1048577≤s∧s≤3000000*((o.length:Int)+1)+2097154:=by rw[hs];split <;> omega
    unfold yg
    rw[qAs]
    refine qf4 (qhG hF hl hm hok.2.2.2 h0 (by omega)) (fun x hx=>?_) (fun z=>⟨_,rfl⟩)
    have hox:=vY hx
    rw[qnC,qxU,quA]
    simp only[qxP,lett,Function.comp]
    rw[qnC,qA (by omega) (by omega)]
    simp only[qxP]
    have e1:isub .i64 (x.1+least) 1=x.1+least-1:=qG (by omega) (by omega)
    rw[e1,qA (by omega) (by omega),qw (by omega)]
    have e:w.length-(o++[(s,x.1+least)]).length=d:=by simp;omega
    have:=qrW hF hl hm h0 h1 h2 h3 hw k (o++[(s,x.1+least)]) (s+(x.1+least)-1) x.2 (by simp;omega) (by simp;omega) hox.2.2.2 (by simp;omega)
    rw[e] at this
    simp only[qxS,qzN,qxQ,qz6] at this
    rw[show decide (0<o.length+1)=true from by simp] at this
    have h9:((rrn l least many d true (s+(x.1+least)-1) x.2).bind fun r=>some ((s,x.1+least)::r.1,r.2)).map (fun r=>(o++r.1,r.2))=(rrn l least many d true (s+(x.1+least)-1) x.2).map fun r=>(o++(s,x.1+least)::r.1,r.2):=by
     cases rrn l least many d true (s+(x.1+least)-1) x.2 <;> simp
    rw[h9,show s+(x.1+least-1)=s+(x.1+least)-1 from by omega]
    exact this
   simp only[Function.comp]
   by_cases hz:0<o.length
   ·rw[if_neg (by simp;intro hh;subst hh;simp at hz)]
    have e1:iadd .i64 g.1 2=g.1+2:=qA (by omega) (by omega)
    rw[e1,qA (by omega) (by omega)]
    exact hj _ (by rw[if_pos (by simpa using hz)])
   ·have hz0:o.length=0:=by omega
    rw[if_pos (by simp[hz0])]
    obtain ⟨gn,hgn⟩:=qx0 hok.1
    rw[show iconv .u64 g.1=g.1 from by rw[hgn];exact kn (by omega),qmN F hok.1 (by omega)]
    simp only[qxP]
    rw[qA (by omega) (by omega)]
    exact hj _ (by rw[if_neg (by simp[hz0])])
  ·rw[if_neg (by simp;omega),show w.length-o.length=0 from by omega]
   show _=_
   simp[qbh]
theorem qsE {F:Nat}(hF:20000≤F){l:qAE}(hl:Bit l)(hm:l.length≤8192){node least many:Int}(h0:0≤many)(h1:many≤300)(h2:2≤least)(h3:least≤300)(hn:Nd node){p:Nat}(hp:p≤l.length) :
  Rd l (qaO F (l.length:Int) (pk l) (p:Int) node least many) (rrns l p node least many):=by
 unfold qaO rrns
 unfold Nd at hn
 have hq:iquo .i64 many least=many/least:=by
  obtain ⟨m,rfl⟩:=qx0 h0
  obtain ⟨c,rfl⟩:=qx0 (show 0≤least by omega)
  unfold iquo
  rw[qyN (by omega)]
  have h5:(m:Int)/(c:Int)≤m:=qz4 _ (by omega)
  have h6:0≤(m:Int)/(c:Int):=qAr (by omega) (by omega)
  exact qL (by omega) (by omega)
 have hd0:0≤many/least:=qAr h0 (by omega)
 have hd1:many/least≤many:=qz4 _ h0
 have hc:∀ {ρ:Type} (m:Option ρ),chk (least != 0) m=m:=fun m=>by unfold chk;rw[if_pos (by simp;omega)]
 rw[hq,hc]
 refine qf4 (qhG hF hl hm hp hd0 (by omega)) (fun g hg=>?_) (fun z=>⟨_,rfl⟩)
 have hok:=vY hg
 obtain ⟨n,hn'⟩:=qx0 hok.1
 rw[hn',qrC (by omega)]
 simp only[qxP,qxU]
 have:=qrW hF hl hm h0 h1 h2 h3 (w:=qx3 n (0,0)) (by simp;omega) F [] node g.2 (by simp;omega) (by simp) hok.2.2.2 (by simp;omega)
 simp only[qyU,qyc,qy9,qx6] at this
 rw[show decide (0<0)=false from rfl] at this
 have h9:(rrn l least many n false node g.2).map (fun r=>(r.1,r.2))=rrn l least many n false node g.2:=by cases rrn l least many n false node g.2 <;> rfl
 rw[h9] at this
 exact this
def rls2 (l:qAE)(node:Int)(k:Nat)(many:Int)(out:qAE)(R:List (Int×Int))(p:Nat):Option (qAE×Nat) :=
 if (rm R []).2=0∧((rm R []).1.length:Int)≤many-out.length then
  match gfr l k (many-out.length-(rm R []).1.length).toNat false node p with
  | .inl _=>none
  | .inr g=>some (srt (out++((rm R []).1++g.1)),g.2)
 else none
def rls1 (l:qAE)(node least:Int)(k:Nat)(many:Int)(out:qAE)(p:Nat):Option (qAE×Nat) :=
 if many-out.length=0 then some (out,p) else
 if 0<least then (rrns l p node least (many-out.length)).bind fun r=>rls2 l node k many out r.1 r.2 else rls2 l node k many out [] p
def rls (l:qAE)(p:Nat)(node:Int)(fr:qAE)(back least:Int)(k:Nat):Option (qAE×Nat) :=
 (rgam l p 300).bind fun m=>if m.1=0 then some ([],m.2) else
  if 0<back then (rblk l m.2 fr.length).bind fun b=>if (cpy fr b.1).2=0∧((cpy fr b.1).1.length:Int)≤m.1 then rls1 l node least k m.1 (cpy fr b.1).1 b.2 else none
  else rls1 l node least k m.1 [] m.2
theorem qtL {α σ ρ:Type}(y:α)(k:α→Option ρ)(kl:σ→Option ρ):lbnd (some (.inl y)) k kl=k y:=rfl
theorem qgQ {F:Nat}{c:Bool}{ρ:Type}(k kl:Unit→Option ρ):lbnd (ym F c) k kl=if c then k () else kl ():=by cases c <;> rfl
theorem qqe {l:qAE}{k:Nat}:∀ {m:Nat} {b:Bool} {a:Int} {p:Nat} {e:Int},gfr l k m b a p=.inl e→e≠0
 | 0,_,_,_,_,h=>by simp[gfr] at h
 | m+1,b,a,p,e,h=>by
  unfold gfr at h
  split at h
  ·rename_i h1;simp only[Sum.inl.injEq] at h;rw[← h];exact h1
  ·split at h
   ·simp only[Sum.inl.injEq] at h;rw[← h];decide
   ·split at h
    ·rename_i e' he;simp only[Sum.inl.injEq] at h;rw[← h];exact qqe he
    ·simp at h
theorem qtA {l:qAE}{k:Nat}(hl:Bit l)(hk:1≤k):∀ {m:Nat} {b:Bool} {a:Int} {p:Nat} {r:qAE×Nat},p≤l.length→gfr l k m b a p=.inr r→r.2≤l.length
 | 0,_,_,p,r,hp,h=>by simp only[gfr,Sum.inr.injEq] at h;subst h;exact hp
 | m+1,b,a,p,r,hp,h=>by
  unfold gfr at h
  split at h
  ·simp at h
  ·rename_i h1
   split at h
   ·simp at h
   ·split at h
    ·simp at h
    ·rename_i r' hr
     simp only[Sum.inr.injEq] at h
     rcases qvf hl (k:=k) (p:=p) hk with h2 | ⟨g,q,h2,h3,h4⟩
     ·exact absurd h2 h1
     ·rw[h2] at hr
      rw[← h]
      exact qtA (r:=r') hl hk h4 hr
theorem qrP {F k:Nat}(hF:2000000≤F)(h1:1≤k)(h2:k≤16){l:qAE}(hl:Bit l)(hm:l.length≤8192){node many:Int}(hn:Nd node){out:qAE}(ho:(out.length:Int)≤many)(hmm:many≤300){R:List (Int×Int)}{p:Nat}(hp:p≤l.length){x:Int×Int×Int}(hx:x.1=many) :
  Rd l (yq F (pk l) node (k:Int) x out R (l.length:Int) (p:Int)) (rls2 l node k many out R p):=by
 unfold yq rls2
 rw[qtN (by omega),hx]
 simp only[qxP]
 have hlen:=qw9 (R:=R) (rest:=[])
 have e1:isub .i64 many (out.length:Int)=many-out.length:=qG (by omega) (by omega)
 rw[qgQ,e1]
 by_cases hc:(rm R []).2=0∧((rm R []).1.length:Int)≤many-out.length
 ·have e2:isub .i64 (many-(out.length:Int)) ((rm R []).1.length:Int)=((many-out.length-(rm R []).1.length).toNat:Int):=by rw[qG (by omega) (by omega)];omega
  rw[if_pos (by simpa using hc),if_pos hc,e2,qtB (by omega) hl hm h1 h2 (by omega) hp hn]
  simp only[qxP]
  rw[qgQ]
  cases hg:gfr l k (many-out.length-(rm R []).1.length).toNat false node p with
  | inl e =>
   have:=qqe hg
   rw[if_neg (show ¬ ((gfI [] (Sum.inl e:Int ⊕ (qAE×Nat))).2.2 == 0)=true by simpa[gfI] using this)]
   exact ⟨_,rfl⟩
  | inr g =>
   have hgl:=qny hg
   rw[if_pos (show ((gfI [] (Sum.inr g:Int ⊕ (qAE×Nat))).2.2 == 0)=true by simp[gfI]),show (gfI [] (Sum.inr g:Int ⊕ (qAE×Nat))).1=g.1 from by simp[gfI],qp9 (by omega) (by omega)]
   simp only[qxP]
   rw[qvY (by simp;omega)]
   simp only[qxP]
   have hch:∀ {ρ:Type} (q:Option ρ),chk (decide ((srt (out++((rm R []).1++g.1))).length=(out++((rm R []).1++g.1)).length)) q=q:=fun q=>by unfold chk;rw[if_pos (decide_eq_true (qiW _))]
   rw[hch]
   rfl
 ·rw[if_neg (by simpa using hc),if_neg hc]
  exact ⟨_,rfl⟩
theorem qrO {F k:Nat}(hF:2000000≤F)(h1:1≤k)(h2:k≤16){l:qAE}(hl:Bit l)(hm:l.length≤8192){node many least:Int}(hn:Nd node){out:qAE}(ho:(out.length:Int)≤many)(hmm:many≤300){p:Nat}(hp:p≤l.length){x:Int×Int×Int}(hx:x.1=many)(hle:least=0∨2≤least∧least≤300) :
  Rd l (yp F (pk l) node least (k:Int) x out (l.length:Int) (p:Int)) (rls1 l node least k many out p):=by
 unfold yp rls1
 have e1:isub .i64 x.1 (out.length:Int)=many-out.length:=by rw[hx];exact qG (by omega) (by omega)
 rw[e1]
 by_cases h0:many-out.length=0
 ·rw[if_pos (by simpa using h0),if_pos h0]
  rfl
 ·rw[if_neg (by simpa using h0),if_neg h0]
  by_cases hs:0<least
  ·rw[if_pos (by simpa using hs),if_pos hs]
   refine qf4 (qsE (by omega) hl hm (by omega) (by omega) (by omega) (by omega) hn hp) (fun r hr=>?_) (fun z=>⟨_,rfl⟩)
   have hq:r.2≤l.length:=by
    unfold rrns at hr
    rw[qyz] at hr
    obtain ⟨g,hg,hr⟩:=hr
    exact (qnZ (vY hg).2.2.2 hr).2
   exact qrP hF h1 h2 hl hm hn ho hmm hq hx
  ·rw[if_neg (by simpa using hs),if_neg hs]
   exact qrP hF h1 h2 hl hm hn ho hmm hp hx
theorem qrL {l:qAE}{p:Nat}{many:Int}{b:qAE×Nat}(h:rblk l p many=some b):b.2≤l.length:=by
 unfold rblk at h
 rw[qyz] at h
 obtain ⟨g,hg,h⟩:=h
 exact (qnU (vY hg).2.2.2 h).2
theorem qw8 {F k:Nat}(hF:2000000≤F)(h1:1≤k)(h2:k≤16){l:qAE}(hl:Bit l)(hm:l.length≤8192){node back least:Int}{fr:qAE}(hn:Nd node){p:Nat}(hp:p≤l.length)(hfr:0<back→gkc fr=0)(hle:least=0∨2≤least∧least≤300) :
  Rd l (vO F (l.length:Int) (pk l) (p:Int) node fr back least (k:Int)) (rls l p node fr back least k):=by
 unfold vO rls
 refine qf4 (qhG (by omega) hl hm hp (by omega) (by omega)) (fun m hg=>?_) (fun z=>⟨_,rfl⟩)
 have hok:=vY hg
 by_cases h0:m.1=0
 ·rw[if_pos (by simpa using h0),if_pos h0]
  rfl
 ·rw[if_neg (by simpa using h0),if_neg h0]
  by_cases hb:0<back
  ·have hfl:=(zn.1 (hfr hb)).1
   rw[if_pos (by simpa using hb),if_pos hb]
   refine qf4 (qpo (by omega) hl hm (by omega) (by omega) hok.2.2.2) (fun b hbk=>?_) (fun z=>⟨_,rfl⟩)
   rw[qvo (by omega)]
   simp only[qxP]
   rw[qgQ]
   by_cases hc:(cpy fr b.1).2=0∧((cpy fr b.1).1.length:Int)≤m.1
   ·rw[if_pos (by simpa using hc),if_pos hc]
    exact qrO hF h1 h2 hl hm hn hc.2 (by omega) (qrL hbk) rfl hle
   ·rw[if_neg (by simpa using hc),if_neg hc]
    exact ⟨_,rfl⟩
  ·rw[if_neg (by simpa using hb),if_neg hb]
   exact qrO hF h1 h2 hl hm hn (by simp;omega) (by omega) hok.2.2.2 rfl hle
theorem quk {k:Nat}{l:qAE}{node back least:Int}{fr:qAE}{p:Nat}{r:qAE×Nat}(hl:Bit l)(h1:1≤k)(h:rls l p node fr back least k=some r):r.2≤l.length:=by
 have h2:∀ {many:Int} {out:qAE} {R:List (Int×Int)} {q:Nat},q≤l.length→rls2 l node k many out R q=some r→r.2≤l.length:=by
  intro many out R q hq hr
  unfold rls2 at hr
  split at hr
  ·split at hr
   ·simp at hr
   ·rename_i g hg
    simp only[qx2] at hr
    rw[← hr]
    exact qtA (r:=g) hl h1 hq hg
  ·simp at hr
 have h3:∀ {many:Int} {out:qAE} {q:Nat},q≤l.length→rls1 l node least k many out q=some r→r.2≤l.length:=by
  intro many out q hq hr
  unfold rls1 at hr
  split at hr
  ·simp only[qx2] at hr;rw[← hr];exact hq
  ·split at hr
   ·rw[qyz] at hr
    obtain ⟨r',hr1,hr2⟩:=hr
    refine h2 ?_ hr2
    unfold rrns at hr1
    rw[qyz] at hr1
    obtain ⟨g,hg,hr1⟩:=hr1
    exact (qnZ (vY hg).2.2.2 hr1).2
   ·exact h2 hq hr
 unfold rls at h
 rw[qyz] at h
 obtain ⟨m,hm,h⟩:=h
 split at h
 ·simp only[qx2] at h;rw[← h];exact (vY hm).2.2.2
 ·split at h
  ·rw[qyz] at h
   obtain ⟨b,hb,h⟩:=h
   split at h
   ·exact h3 (qrL hb) h
   ·simp at h
  ·exact h3 (vY hm).2.2.2 h
def rdl (l:qAE)(p:Nat)(node:Int)(fr:qAE)(back least:Int)(k:Nat):Option (qAE×Nat) :=
 (rls l p node fr back least k).bind fun r=>if gkc r.1=0∧(enc node r.1 fr back least k).length≤8192∧p+(enc node r.1 fr back least k).length=r.2∧(l.drop p).take (enc node r.1 fr back least k).length=enc node r.1 fr back least k then some r else none
theorem qr2 {F:Nat}{l e:qAE}(hl:Bit l)(hm:l.length≤8192)(he:Bit e)(hem:e.length≤8192){p:Nat}{x17:qAE×Int×Int}(h17:x17.2.1=(l.length:Int))(hpe:p+e.length≤l.length):∀ (k i:Nat),e.length<k+i→i≤e.length →
  (if (l.drop (p+i)).take (e.length-i)=e.drop i then zG F (pk l) (p:Int) x17 ((e.length:Int),pk e,false) k (i:Int)=some (x17.1,true,x17.2.1,x17.2.2)
   else ∃ a b,zG F (pk l) (p:Int) x17 ((e.length:Int),pk e,false) k (i:Int)=some ([],false,a,b))
 | 0,_,_,_=>by omega
 | k+1,i,h,hi=>by
  have hd:zG F (pk l) (p:Int) x17 ((e.length:Int),pk e,false) (k+1) (i:Int)=vU F (pk l) (p:Int) x17 ((e.length:Int),pk e,false) (zG F (pk l) (p:Int) x17 ((e.length:Int),pk e,false) k) (i:Int):=rfl
  rw[hd]
  unfold vU
  by_cases hlt:i<e.length
  ·rw[if_pos (show decide ((i:Int)<(((e.length:Int),pk e,false):Int×qAE×Bool).1)=true by simpa using hlt)]
   simp only
   rw[qs6 he (by omega) hlt,h17,jN (by omega),qs6 hl (by omega) (show p+i<l.length by omega)]
   simp only[qxP]
   rw[qgQ]
   have ih:=qr2 (F:=F) hl hm he hem h17 hpe k (i+1) (by omega) (by omega)
   have hstep:((l.drop (p+i)).take (e.length-i)=e.drop i)↔(e[i]=l[p+i]∧(l.drop (p+(i+1))).take (e.length-(i+1))=e.drop (i+1)):=by
    rw[qxT (show p+i<l.length by omega),qxT hlt,show e.length-i=(e.length-(i+1))+1 from by omega,List.take_succ_cons,qzq,show p+i+1=p+(i+1) from by omega]
    constructor
    ·rintro ⟨a,b⟩;exact ⟨a.symm,b⟩
    ·rintro ⟨a,b⟩;exact ⟨a.symm,b⟩
   rw[qw (by omega)]
   by_cases hq:e[i]=l[p+i]
   ·rw[if_pos (show (e[i] == l[p+i])=true by simpa using hq)]
    by_cases hr:(l.drop (p+(i+1))).take (e.length-(i+1))=e.drop (i+1)
    ·rw[if_pos (hstep.2 ⟨hq,hr⟩)]
     rw[if_pos hr] at ih
     rw[h17] at ih
     exact ih
    ·rw[if_neg (fun hh=>hr (hstep.1 hh).2)]
     rw[if_neg hr] at ih
     exact ih
   ·rw[if_neg (show ¬ (e[i] == l[p+i])=true by simpa using hq),if_neg (fun hh=>hq (hstep.1 hh).1)]
    exact ⟨_,_,rfl⟩
  ·obtain rfl:i=e.length:=by omega
   rw[if_neg (show ¬ decide (((e.length:Nat):Int)<(((e.length:Int),pk e,false):Int×qAE×Bool).1)=true by simp)]
   rw[if_pos (by simp)]
   rfl
theorem qvs {node:Int}{x fr:qAE}{back least:Int}{k:Nat}:1≤(enc node x fr back least k).length:=by
 unfold enc
 rw[qxQ,qnx];omega
theorem qun {F k:Nat}(hF:2000000≤F)(h1:1≤k)(h2:k≤16){l:qAE}(hl:Bit l)(hm:l.length≤8192){node back least:Int}{fr:qAE}(hn:Nd node){p:Nat}(hp:p≤l.length)(hfr:0<back→gkc fr=0)(hle:least=0∨2≤least∧least≤300) :
  match rdl l p node fr back least k with
  | none=>∃ a b,vP F (l.length:Int) (pk l) (p:Int) node fr back least (k:Int)=some ([],false,a,b)
  | some r=>vP F (l.length:Int) (pk l) (p:Int) node fr back least (k:Int)=some (r.1,true,(l.length:Int),(r.2:Int)):=by
 have hL:=qw8 hF h1 h2 hl hm hn hp hfr hle
 unfold vP rdl
 cases hr:rls l p node fr back least k with
 | none =>
  rw[hr] at hL
  obtain ⟨z,hz⟩:=hL
  rw[hz]
  exact ⟨_,_,rfl⟩
 | some r =>
  rw[hr] at hL
  have hL':vO F (l.length:Int) (pk l) (p:Int) node fr back least (k:Int)=some (.inl (r.1,(l.length:Int),(r.2:Int))):=hL
  have hat:=quk hl h1 hr
  rw[hL',qtL,qgu (by omega)]
  simp only[qxP]
  rw[qgQ]
  by_cases hg:gkc r.1=0
  ·obtain ⟨e,f,he,hrep⟩:=qpS hF h1 h2 (x:=r.1) hn hg hfr hle
   have hen:=qvs (node:=node) (x:=r.1) (fr:=fr) (back:=back) (least:=least) (k:=k)
   rw[if_pos (show (gkc r.1 == 0)=true by simpa using hg),he]
   simp only[qxP]
   cases f with
   | true =>
    have hfl:=hrep.full rfl
    rw[qgQ]
    rw[if_neg (fun hh=>by omega)]
    exact ⟨_,_,rfl⟩
   | false =>
    have hel:=hrep.ok rfl
    have heb:=hrep.bit
    have hem:=hrep.len
    rw[hel] at heb hem ⊢
    simp only[qzO,if_true]
    rw[qG (by omega) (by omega),qgQ]
    by_cases hq:p+(enc node r.1 fr back least k).length=r.2
    ·rw[if_pos (show (((enc node r.1 fr back least k).length:Int) == (r.2:Int)-p)=true by simp;omega)]
     unfold vV
     have:=qr2 (F:=F) hl hm heb hem (p:=p) (x17:=(r.1,(l.length:Int),(r.2:Int))) rfl (by omega) F 0 (by omega) (by omega)
     simp only[qyP,qy9,qx8] at this
     by_cases hb:(l.drop p).take (enc node r.1 fr back least k).length=enc node r.1 fr back least k
     ·rw[if_pos ⟨hg,hem,hq,hb⟩]
      rw[if_pos hb] at this
      exact this
     ·rw[if_neg (fun hh=>hb hh.2.2.2)]
      rw[if_neg hb] at this
      exact this
    ·rw[if_neg (show ¬ (((enc node r.1 fr back least k).length:Int) == (r.2:Int)-p)=true by simp;omega),if_neg (fun hh=>hq hh.2.2.1)]
     exact ⟨_,_,rfl⟩
  ·rw[if_neg (show ¬ (gkc r.1 == 0)=true by simpa using hg),if_neg (fun hh=>hg hh.1)]
   exact ⟨_,_,rfl⟩
theorem qf5 {n:Nat}{most:Int}(hn:n≤1099511627776)(hm:(n:Int)≤most)(P R:qAE):rgam (P++(ga n++R)) P.length most=some ((n:Int),P.length+(ga n).length):=by
 unfold rgam
 rw[← qxS,qxu hn]
 simp only[true_and]
 rw[if_pos hm,qxU]
theorem qiR {n:Int}{most:Int}(h0:0≤n)(hn:n≤1099511627776)(hm:n≤most)(P R:qAE):rgam (P++(ga n.toNat++R)) P.length most=some (n,P.length+(ga n.toNat).length):=by
 rw[qf5 (by omega) (by omega)]
 congr 2
 omega
theorem qnT {many : Int} (hmany : many ≤ 1000000) : ∀ (bs : qAE) (b : Bool) (P R : qAE), okB (!b) bs = true → (∀ n ∈ bs, n ≤ many) → rbl (P ++ (encBs b bs ++ R)) many bs.length b P.length = some (bs, P.length + (encBs b bs).length)
  | [], b, P, R, _, _ => by simp [rbl, encBs]
  | n :: bs, b, P, R, h, hb => by
    rw [qgx] at h
    simp only [qys, qyZ, decide_eq_true_eq, Bool.not_eq_true'] at h
    have hn := hb n (by simp)
    have hv : 0 ≤ n - (if b = true then 1 else 0) := by
      cases b with
      | false => simp; exact h.1.1
      | true => rcases h.1.2 with h2 | h2; · simp at h2
                · simp; omega
    unfold encBs
    simp only [qxY, rbl, qxS]
    rw [qiR hv (by split <;> omega) (by split <;> omega)]
    simp only [qxP]
    have := qnT hmany bs true (P ++ ga (n - if b = true then 1 else 0).toNat) R (by simpa using h.2) (fun z hz => hb z (by simp [hz]))
    simp only [qxS, qxQ] at this
    rw [this]
    simp only [qxP, qxQ]
    congr 2
    · congr 1; split <;> omega
    · omega
theorem qub {many:Int}(hmany:many≤1000000){bs:qAE}(P R:qAE)(h:okB true bs=true)(hb:∀ n∈bs,n≤many)(hl:(bs.length:Int)≤many+1):rblk (P++(encB bs++R)) P.length many=some (bs,P.length+(encB bs).length):=by
 unfold rblk encB
 rw[qxS,qf5 (by omega) (by omega)]
 simp only[qxP,qxU]
 have:=qnT hmany bs false (P++ga bs.length) R (by simpa using h) hb
 simp only[qxS,qxQ] at this
 rw[this]
 congr 2
 rw[qxQ];omega
theorem qrV {least many:Int}(hle:0≤least):∀ (R:List (Int×Int)) (b:Bool) (a q:Int) (P T:qAE),(∀ r∈R,RunOk r∧least≤r.2∧r.2-least≤many)→Nd a→Sep q R→(b=true→a+1≤q) →
  rrn (P++(encRs least b a R++T)) least many R.length b a P.length=some (R,P.length+(encRs least b a R).length)
 | [],_,_,_,P,T,_,_,_,_=>by simp[rrn,encRs]
 | r::R,b,a,q,P,T,hR,ha,hs,hb=>by
  obtain ⟨hro,hrl,hrm⟩:=hR r (by simp)
  obtain ⟨s1,s2,s3⟩:=hs
  unfold RunOk at hro
  unfold Nd at ha
  have hf:=qfD (x:=r.1-a) (by omega)
  have hf2:foldOf (r.1-a)≤2097152:=by unfold foldOf;split <;> omega
  have hv:0≤(if b=true then r.1-a-2 else foldOf (r.1-a))∧(if b=true then r.1-a-2 else foldOf (r.1-a))≤2097152:=by
   cases b with
   | false=>simp;omega
   | true=>have:=hb rfl;simp;omega
  unfold encRs
  simp only[qxY,rrn,qxS]
  rw[qiR hv.1 (by omega) hv.2]
  simp only[qxP]
  have e1:=qiR (n:=r.2-least) (most:=many) (by omega) (by omega) hrm (P++ga (if b=true then r.1-a-2 else foldOf (r.1-a)).toNat) (encRs least true (r.1+r.2-1) R++T)
  simp only[qxS,qxQ] at e1
  rw[e1]
  simp only[qxP]
  have e2:a+(if b=true then (if b=true then r.1-a-2 else foldOf (r.1-a))+2 else q8 (if b=true then r.1-a-2 else foldOf (r.1-a)))=r.1:=by
   cases b with
   | false=>simp only[qxZ,if_false];rw[qht];omega
   | true=>simp only[if_true];omega
  rw[e2,show r.2-least+least=r.2 from by omega]
  have:=qrV hle R true (r.1+r.2-1) (r.1+r.2) ((P++ga (if b=true then r.1-a-2 else foldOf (r.1-a)).toNat)++ga (r.2-least).toNat) T (fun z hz=>hR z (by simp[hz])) (by unfold Nd;omega) s3 (fun _=>by omega)
  simp only[qxS,qxQ] at this
  rw[show P.length+(ga (if b=true then r.1-a-2 else foldOf (r.1-a)).toNat).length+(ga (r.2-least).toNat).length=P.length+((ga (if b=true then r.1-a-2 else foldOf (r.1-a)).toNat).length+(ga (r.2-least).toNat).length) from by omega,this]
  simp only[qxP,qxQ]
  congr 2
  omega
theorem qmf {least q:Int}(hle:2≤least):∀ {R:List (Int×Int)},Sep q R→(∀ r∈R,least≤r.2)→least*(R.length:Int)≤((flat R).length:Int)
 | [],_,_=>by simp[flat]
 | r::R,hs,hR=>by
  have h1:=hR r (by simp)
  have:=qmf hle hs.2.2 (fun z hz=>hR z (by simp[hz]))
  rw[zO,qxQ,va,qxY]
  rw[show ((R.length+1:Nat):Int)=(R.length:Int)+1 from by omega,Int.mul_add]
  omega
theorem qup {least many node q:Int}(hle:2≤least){R:List (Int×Int)}(P T:qAE)(hR:∀ r∈R,RunOk r∧least≤r.2)(hn:Nd node)(hs:Sep q R)(hm:((flat R).length:Int)≤many)(hmm:many≤300) :
  rrns (P++(encR least node R++T)) P.length node least many=some (R,P.length+(encR least node R).length):=by
 unfold rrns encR
 have h1:=qmf hle hs (fun r hr=>(hR r hr).2)
 have h2:(R.length:Int)≤many/least:=by
  rw[Int.le_ediv_iff_mul_le (by omega)]
  rw[qz7] at h1
  omega
 have h3:many/least≤many:=qz4 _ (by omega)
 rw[qxS,qf5 (by omega) h2]
 simp only[qxP,qxU]
 have:=qrV (least:=least) (many:=many) (by omega) R false node q (P++ga R.length) T (fun r hr=>⟨(hR r hr).1,(hR r hr).2,by have:=qhy hr;omega⟩) hn hs (by simp)
 simp only[qxS,qxQ] at this
 rw[this]
 congr 2
 rw[qxQ];omega
theorem qjT {rest:qAE}{least:Int}(h:gkc rest=0):skc (encO rest least)=0∧Ris (-1) (encS rest least)∧(flat (encO rest least)++encS rest least).Perm rest∧(flat (encO rest least)).Pairwise (·≤·):=by
 obtain ⟨hm,hs⟩:=zn.1 h
 unfold encO encS
 by_cases hl:0<least
 ·rw[if_pos hl,if_pos hl]
  exact ⟨qv4 hm hs _,qj1 hs _,qpC _ _,qkD (jO (qj1 hs _)).1⟩
 ·rw[if_neg hl,if_neg hl]
  exact ⟨by decide,hs,by simp[flat],by simp[flat]⟩
theorem qpv {k:Nat}(h1:1≤k)(h2:k≤16){node least:Int}(hn:Nd node){rest out x:qAE}(hr:gkc rest=0)(hx:gkc x=0)(hp:(out++rest).Perm x)(P T:qAE) :
  rls2 (P++(zes k (gp false node (encS rest least))++T)) node k x.length out (encO rest least) P.length=some (x,P.length+(zes k (gp false node (encS rest least))).length):=by
 obtain ⟨e1,e2,e3,e4⟩:=qjT (least:=least) hr
 have hrm:=(zn.1 hr).1
 have hlen:=e3.length_eq
 have hlen2:=hp.length_eq
 rw[qxQ] at hlen hlen2
 have hrmm:rm (encO rest least) []=(flat (encO rest least),0):=qsC e1 (by decide) (by rw[qq9];simp) (by simp) e4 (by omega)
 unfold rls2
 rw[hrmm]
 simp only[true_and]
 rw[if_pos (by omega),show ((x.length:Int)-out.length-(flat (encO rest least)).length).toNat=(gp false node (encS rest least)).length from by rw[qdX];omega]
 have h40:L40 (gp false node (encS rest least)):=fun z hz=>by have:=ql6 hn e2 (by simp) z hz;omega
 have:=qnz h1 h2 P T h40 (qq3 (b:=false) hn e2 (by simp))
 rw[qxS] at this
 rw[this]
 simp only
 have hpx:(out++(flat (encO rest least)++encS rest least)).Perm x:=(qy6 out e3).trans hp
 rw[qhn hpx (qkD (qhb hx))]
theorem qpu {k:Nat}(h1:1≤k)(h2:k≤16){node least:Int}(hn:Nd node)(hle:least=0∨2≤least∧least≤300){rest out x:qAE}(hr:gkc rest=0)(hx:gkc x=0)(ho:out.Pairwise (·≤·))(hp:(out++rest).Perm x)(P T:qAE) :
  rls1 (P++(encL node rest least k++T)) node least k x.length out P.length=some (x,P.length+(encL node rest least k).length):=by
 have hlen2:=hp.length_eq
 have hxm:=(zn.1 hx).1
 obtain ⟨hrm,hrs⟩:=zn.1 hr
 rw[qxQ] at hlen2
 unfold rls1 encL
 by_cases h0:rest=[]
 ·subst h0
  simp only[qyc,qyP] at hlen2
  rw[if_pos (by omega),if_pos rfl]
  rw[qyh] at hp
  have e1:=qhn hp (qkD (qhb hx))
  have e2:=qhn (qyB out) ho
  rw[e2] at e1
  rw[e1];simp
 ·have hl0:rest.length≠0:=by simpa using h0
  rw[if_neg (by omega),if_neg h0]
  by_cases hl:0<least
  ·obtain ⟨e1,e2,e3,e4⟩:=qjT (least:=least) hr
   have hlen:=e3.length_eq
   rw[qxQ] at hlen
   obtain ⟨r1,r2⟩:=qms hrm hrs
   have hO:encO rest least=spO least (rs rest):=by unfold encO;rw[if_pos hl]
   rw[if_pos hl,if_pos hl,qxS,qup (q:=-1) (by omega) _ _ (fun r hrr=>by rw[hO] at hrr;exact ⟨r2 r (qyR.1 hrr).1,by simpa using (qyR.1 hrr).2⟩) hn (by rw[hO];exact qds _ r1) (by omega) (by omega)]
   simp only[qxP]
   have:=qpv (least:=least) h1 h2 hn hr hx hp (P++encR least node (encO rest least)) T
   simp only[qxS,qxQ] at this
   rw[this,qxQ]
   congr 2
   omega
  ·rw[if_neg hl,if_neg hl,qx6]
   have hO:encO rest least=[]:=by unfold encO;rw[if_neg hl]
   have:=qpv (least:=least) h1 h2 hn hr hx hp P T
   rw[hO] at this
   exact this
theorem qrQ {k:Nat}(h1:1≤k)(h2:k≤16){node back least:Int}{x fr:qAE}(hn:Nd node)(hle:least=0∨2≤least∧least≤300)(hx:gkc x=0)(hfr:0<back→gkc fr=0)(P T:qAE) :
  rls (P++(enc node x fr back least k++T)) P.length node fr back least k=some (x,P.length+(enc node x fr back least k).length):=by
 have hxm:=(zn.1 hx).1
 unfold rls enc rstO
 rw[qxS,qf5 (by omega) (by omega)]
 simp only[qxP]
 by_cases h0:x=[]
 ·subst h0
  rw[if_pos (by simp),if_pos rfl]
  simp
 ·have hx0:x.length≠0:=by simpa using h0
  rw[if_neg (by omega),if_neg h0]
  by_cases hb:0<back
  ·have hfg:=hfr hb
   have hfl:=(zn.1 hfg).1
   rw[if_pos hb,if_pos hb,if_pos hb]
   have htl:=qhR fr x
   have hok:okB true (tbs fr x)=true:=qhe _ _ _ _ (by omega) (Or.inl rfl)
   have hsum:bsum (tbs fr x)≤0+(fr.map (hasB x)).length:=qf0 _ _ _ (by omega)
   rw[qyG] at hsum
   have e1:=qub (many:=(fr.length:Int)) (by omega) (bs:=tbs fr x) (P++ga x.length) (encL node (rst fr x) least k++T) hok (fun n hnm=>by have:=qhD hok n hnm;omega) (by omega)
   simp only[qxS,qxQ] at e1
   rw[qxS,e1]
   simp only[qxP]
   rw[qrb hfg]
   have hbe:=qpe hfg hx
   have hfx:(fr.filter (hasB x)).length≤x.length:=by rw[hbe];exact qzP _ _
   rw[if_pos ⟨rfl,by simp only;omega⟩]
   have hperm:(fr.filter (hasB x)++rst fr x).Perm x:=by rw[hbe];exact ql1 _ _
   have:=qpu h1 h2 hn hle (qiS hx) hx (qkD ((qhb hfg).sublist qzD)) hperm ((P++ga x.length)++encB (tbs fr x)) T
   simp only[qxS,qxQ] at this
   simp only
   rw[show P.length+(ga x.length).length+(encB (tbs fr x)).length=P.length+((ga x.length).length+(encB (tbs fr x)).length) from by omega,this]
   congr 2
   simp only[qxQ];omega
  ·rw[if_neg hb,if_neg hb,if_neg hb,qx6]
   have:=qpu h1 h2 hn hle hx hx (out:=[]) (by simp) (by simp) (P++ga x.length) T
   simp only[qxS,qxQ] at this
   rw[this,qxQ]
   congr 2
   omega
def hcB (back least k:Int):Prop:=back<0∨7<back∨least<0∨least=1∨300<least∨k<1∨16<k
instance hcDec (back least k:Int):Decidable (hcB back least k):=inferInstanceAs (Decidable (_∨_))
def hcE (back least k:Int):Int:=if hcB back least k then 3 else 0
def scE (node:Int)(fr:qAE)(back:Int):Int:=if Nd node then (if 0<back then gkc fr else 0) else 3
theorem qjb {F:Nat}{back least k:Int}:qcy F back least k=some (hcE back least k):=by
 unfold qcy hcE
 by_cases h:hcB back least k
 ·rw[if_pos (by unfold hcB at h;simp only[qyZ,decide_eq_true_eq,beq_iff_eq];omega),if_pos h]
 ·rw[if_neg (by unfold hcB at h;simp only[qyZ,decide_eq_true_eq,beq_iff_eq];omega),if_neg h]
theorem qsJ {F:Nat}(hF:20000≤F){node back least k:Int}{fr:qAE}:qff F node fr back least k=some (scE node fr back):=by
 unfold qff scE
 rw[qrD]
 by_cases h:Nd node
 ·rw[if_neg (by simp[h]),if_pos h]
  by_cases hb:0<back
  ·rw[if_pos (by simpa using hb),if_pos hb,qgu hF];rfl
  ·rw[if_neg (by simpa using hb),if_neg hb]
 ·rw[if_pos (by simp[h]),if_neg h]
theorem qam {back least k:Int}(h:hcE back least k=0):(0≤back∧back≤7)∧(least=0∨2≤least∧least≤300)∧∃ k':Nat,k=(k':Int)∧1≤k'∧k'≤16:=by
 unfold hcE at h
 split at h
 ·simp at h
 ·rename_i h1
  unfold hcB at h1
  exact ⟨by omega,by omega,k.toNat,by omega,by omega,by omega⟩
theorem quy {node back:Int}{fr:qAE}(h:scE node fr back=0):Nd node∧(0<back→gkc fr=0):=by
 unfold scE at h
 split at h
 ·rename_i hn
  refine ⟨hn,fun hb=>?_⟩
  rw[if_pos hb] at h;exact h
 ·simp at h
theorem qux {node back:Int}{fr:qAE}(h:Nd node)(h2:0<back→gkc fr=0):scE node fr back=0:=by
 unfold scE
 rw[if_pos h]
 split
 ·rename_i hb;exact h2 hb
 ·rfl
def srE (m:Int)(b:qAE)(p node:Int)(fr:qAE)(back least k:Int):Int:=if hcE back least k≠0 then hcE back least k else if raOf m b p≠0 then raOf m b p else scE node fr back
def sr (m:Int)(b:qAE)(p node:Int)(fr:qAE)(back least k:Int):qAE×Int×Int :=
 if srE m b p node fr back least k≠0 then ([],0,srE m b p node fr back least k) else
 match rdl (bl b m.toNat) p.toNat node fr back least k.toNat with
 | none=>([],0,1)
 | some r=>(r.1,(r.2:Int),0)
theorem quB {F k:Nat}(hF:2000000≤F)(h1:1≤k)(h2:k≤16){l:qAE}(hl:Bit l)(hm:l.length≤8192){node back least:Int}{fr:qAE}(hn:Nd node){p:Nat}(hp:p≤l.length)(hfr:0<back→gkc fr=0)(hle:least=0∨2≤least∧least≤300) :
  qdw F (l.length:Int) (pk l) (p:Int) node fr back least (k:Int)=some (match rdl l p node fr back least k with | none=>([],0,1) | some r=>(r.1,(r.2:Int),0)):=by
 have:=qun hF h1 h2 hl hm hn hp hfr hle
 unfold qdw
 cases h:rdl l p node fr back least k with
 | none =>
  rw[h] at this
  obtain ⟨a,b,e⟩:=this
  rw[e];rfl
 | some r =>
  rw[h] at this
  simp only at this
  rw[this];rfl
theorem qxc {m p node back least k:Int}{b fr:qAE}(h:srE m b p node fr back least k=0):hcE back least k=0∧raOf m b p=0∧scE node fr back=0:=by
 unfold srE at h
 by_cases h1:hcE back least k=0
 ·rw[if_neg (by simp[h1])] at h
  by_cases h2:raOf m b p=0
  ·rw[if_neg (by simp[h2])] at h;exact ⟨h1,h2,h⟩
  ·rw[if_pos h2] at h;exact absurd h h2
 ·rw[if_pos h1] at h;exact absurd h h1
def swE (node:Int)(x fr:qAE)(back least k:Int):Int:=if hcE back least k≠0 then hcE back least k else if ¬ Nd node then 3 else if gkc x≠0 then gkc x else scE node fr back
def sw (node:Int)(x fr:qAE)(back least k:Int):Int×qAE×Int :=
 if swE node x fr back least k≠0 then (0,[],swE node x fr back least k) else
 if 8192<(enc node x fr back least k.toNat).length then (0,[],8) else (((enc node x fr back least k.toNat).length:Int),pk (enc node x fr back least k.toNat),0)
theorem qxg {node back least k:Int}{x fr:qAE}(h:swE node x fr back least k=0):hcE back least k=0∧Nd node∧gkc x=0∧(0<back→gkc fr=0):=by
 unfold swE at h
 by_cases h1:hcE back least k=0
 ·rw[if_neg (by simp[h1])] at h
  by_cases h2:Nd node
  ·rw[if_neg (by simpa using h2)] at h
   by_cases h3:gkc x=0
   ·rw[if_neg (by simp[h3])] at h
    exact ⟨h1,h2,h3,(quy h).2⟩
   ·rw[if_pos h3] at h;exact absurd h h3
  ·rw[if_pos h2] at h;simp at h
 ·rw[if_pos h1] at h;exact absurd h h1
theorem qxf {node back least k:Int}{x fr:qAE}(h1:hcE back least k=0)(h2:Nd node)(h3:gkc x=0)(h4:0<back→gkc fr=0):swE node x fr back least k=0:=by
 unfold swE
 rw[if_neg (by simp[h1]),if_neg (by simpa using h2),if_neg (by simp[h3])]
 exact qux h2 h4
theorem qsM {F:Nat}(hF:2000000≤F){node back least k:Int}{x fr:qAE}:qfe F node x fr back least k=some (sw node x fr back least k):=by
 have hj:qa3 F node x fr back least k (swE node x fr back least k)=some (sw node x fr back least k):=by
  unfold qa3 sw
  by_cases h:swE node x fr back least k=0
  ·rw[if_neg (by simp[h]),if_neg (by simp[h])]
   obtain ⟨h1,h2,h3,h4⟩:=qxg h
   obtain ⟨k1,k2,k',rfl,k3,k4⟩:=qam h1
   obtain ⟨l,f,e,hr⟩:=qpS hF k3 k4 h2 h3 h4 k2
   rw[e]
   simp only[qxP,qxU]
   cases f with
   | true=>have:=hr.full rfl;rw[if_pos rfl,if_pos this]
   | false =>
    have e1:=hr.ok rfl
    have e2:=hr.len
    rw[e1] at e2 ⊢
    rw[if_neg (by simp),if_neg (by omega)]
  ·rw[if_pos (by simpa using h),if_pos h]
 unfold qfe
 rw[qjb]
 simp only[qxP]
 by_cases h1:hcE back least k=0
 ·rw[if_pos (by simpa using h1),qrD]
  unfold qa4
  by_cases h2:Nd node
  ·rw[if_neg (by simp[h2])]
   unfold jh
   rw[if_pos (by simpa using h1),qgu (by omega)]
   simp only[qxP]
   unfold ji
   by_cases h3:gkc x=0
   ·have e:swE node x fr back least k=scE node fr back:=by unfold swE;rw[if_neg (by simp[h1]),if_neg (by simpa using h2),if_neg (by simp[h3])]
    rw[if_pos (by simpa using h3),qsJ (by omega),← e]
    exact hj
   ·have e:swE node x fr back least k=gkc x:=by unfold swE;rw[if_neg (by simp[h1]),if_neg (by simpa using h2),if_pos h3]
    rw[if_neg (by simpa using h3),← e]
    exact hj
  ·have e:swE node x fr back least k=3:=by unfold swE;rw[if_neg (by simp[h1]),if_pos h2]
   rw[if_pos (by simp[h2])]
   unfold jh
   rw[if_neg (by decide)]
   unfold ji
   rw[if_neg (by decide),← e]
   exact hj
 ·have e:swE node x fr back least k=hcE back least k:=by unfold swE;rw[if_pos h1]
  rw[if_neg (by simpa using h1)]
  unfold qa4
  rw[if_neg (by simp)]
  unfold jh
  rw[if_neg (by simpa using h1)]
  unfold ji
  rw[if_neg (by simpa using h1),← e]
  exact hj
theorem qvR {k:Nat}(h1:1≤k)(h2:k≤16){node back least:Int}{x fr:qAE}(hn:Nd node)(hle:least=0∨2≤least∧least≤300)(hx:gkc x=0)(hfr:0<back→gkc fr=0)(P T:qAE)(hL:(enc node x fr back least k).length≤8192) :
  rdl (P++(enc node x fr back least k++T)) P.length node fr back least k=some (x,P.length+(enc node x fr back least k).length):=by
 unfold rdl
 rw[qrQ h1 h2 hn hle hx hfr]
 simp only[qxP]
 rw[if_pos (by refine ⟨hx,hL,?_,?_⟩ <;> simp)]
theorem qiP {k:Nat}{l:qAE}{p:Nat}{node back least:Int}{fr:qAE}{r:qAE×Nat}(hl:Bit l)(h1:1≤k)(h:rdl l p node fr back least k=some r) :
  gkc r.1=0∧(enc node r.1 fr back least k).length≤8192∧p+(enc node r.1 fr back least k).length=r.2∧(l.drop p).take (enc node r.1 fr back least k).length=enc node r.1 fr back least k∧r.2≤l.length:=by
 unfold rdl at h
 rw[qyz] at h
 obtain ⟨r',h2,h⟩:=h
 split at h
 ·rename_i hc
  simp only[qx2] at h
  subst h
  exact ⟨hc.1,hc.2.1,hc.2.2.1,hc.2.2.2,quk hl h1 h2⟩
 ·simp at h
theorem qnu {node back least:Int}{x fr:qAE}{k:Nat}:Bit (enc node x fr back least k):=by
 have hn:Bit ([]:qAE):=by intro z hz;simp at hz
 have h1:∀ (bs:qAE) (b:Bool),Bit (encBs b bs):=by
  intro bs
  induction bs with
  | nil=>intro b;exact hn
  | cons n bs ih=>intro b;exact vX (qgL _) (ih true)
 have h2:∀ (R:List (Int×Int)) (b:Bool) (a:Int),Bit (encRs least b a R):=by
  intro R
  induction R with
  | nil=>intro b a;exact hn
  | cons r R ih=>intro b a;exact vX (qgL _) (vX (qgL _) (ih true _))
 unfold enc encL encB encR
 refine vX (qgL _) ?_
 split
 ·exact hn
 ·refine vX ?_ ?_
  ·split
   ·exact vX (qgL _) (h1 _ _)
   ·exact hn
  ·split
   ·exact hn
   ·refine vX ?_ (qsc _ _)
    split
    ·exact vX (qgL _) (h2 _ _ _)
    ·exact hn
theorem qxH {node back least k:Int}{x fr:qAE}(h:swE node x fr back least k=0)(h2:(enc node x fr back least k.toNat).length≤8192):sw node x fr back least k=(((enc node x fr back least k.toNat).length:Int),pk (enc node x fr back least k.toNat),0):=by
 unfold sw;rw[if_neg (by simp[h]),if_neg (by omega)]
theorem qxG {l:qAE}(hl:Bit l)(hm:l.length≤8192){p:Nat}(hp:p≤l.length){node back least k:Int}{fr:qAE}(h1:hcE back least k=0)(h2:scE node fr back=0) :
  sr (l.length:Int) (pk l) (p:Int) node fr back least k=match rdl l p node fr back least k.toNat with | none=>([],0,1) | some r=>(r.1,(r.2:Int),0):=by
 have e:srE (l.length:Int) (pk l) (p:Int) node fr back least k=0:=by
  unfold srE
  rw[if_neg (by simp[h1]),qvQ hm hp,if_neg (by simp),h2]
 unfold sr
 rw[if_neg (by simp[e])]
 simp only[qxU,qcC hl]
def rowE (n:Int):Int→qAE→Int
 | _,[]=>0
 | last,x::l=>if x<0∨n≤x then 3 else if x≤last then 4 else rowE n x l
def gE (n:Int):List (qAE)→Int
 | []=>0
 | l::g=>if rowE n (-1) l≠0 then rowE n (-1) l else gE n g
def gtot:List (qAE)→Nat
 | []=>0
 | l::g=>l.length+gtot g
def gchk (g:List (qAE)):Int:=if 100<g.length then 2 else if gE g.length g≠0 then gE g.length g else if 600<gtot g then 2 else 0
theorem qhJ:∀ {n last:Int} {l:qAE},rowE n last l=0↔(l.Pairwise (·<·)∧∀ x∈l,last<x)∧∀ x∈l,0≤x∧x<n
 | n,last,[]=>by simp[rowE]
 | n,last,x::l=>by
  unfold rowE
  by_cases h1:x<0∨n≤x
  ·rw[if_pos h1]
   constructor
   ·intro h;simp at h
   ·rintro ⟨_,h⟩;have:=h x (by simp);omega
  ·rw[if_neg h1]
   by_cases h2:x≤last
   ·rw[if_pos h2]
    constructor
    ·intro h;simp at h
    ·rintro ⟨⟨_,h⟩,_⟩;have:=h x (by simp);omega
   ·rw[if_neg h2,qhJ,qyW]
    constructor
    ·rintro ⟨⟨a1,a2⟩,a3⟩
     refine ⟨⟨⟨a2,a1⟩,fun y hy=>?_⟩,fun y hy=>?_⟩
     ·rcases qx1.1 hy with rfl | hy
      ·omega
      ·have:=a2 y hy;omega
     ·rcases qx1.1 hy with rfl | hy
      ·omega
      ·exact a3 y hy
    ·rintro ⟨⟨⟨a1,a2⟩,a3⟩,a4⟩
     exact ⟨⟨a2,a1⟩,fun y hy=>a4 y (by simp[hy])⟩
theorem qhK {n last:Int}:∀ {l:qAE},-1≤last→last<n→rowE n last l=0→last+1+l.length≤n
 | [],h1,h2,_=>by simp;omega
 | x::l,h1,h2,h=>by
  unfold rowE at h
  split at h
  ·simp at h
  ·split at h
   ·simp at h
   ·have:=qhK (l:=l) (by omega) (by omega) h
    rw[qxY];omega
theorem qtu {n:Int}:∀ {g:List (qAE)},gE n g=0↔∀ l∈g,rowE n (-1) l=0
 | []=>by simp[gE]
 | l::g=>by
  unfold gE
  by_cases h:rowE n (-1) l=0
  ·rw[if_neg (by simp[h]),qtu];simp[h]
  ·rw[if_pos h];simp[h]
def Gr (g:List (qAE)):Prop:=g.length≤100∧(∀ l∈g,l.Pairwise (·<·)∧∀ x∈l,0≤x∧x<g.length)∧gtot g≤600
theorem qaQ {g:List (qAE)}:gchk g=0↔Gr g:=by
 unfold gchk Gr
 by_cases h1:100<g.length
 ·rw[if_pos h1];simp;omega
 ·rw[if_neg h1]
  by_cases h2:gE g.length g=0
  ·rw[if_neg (by simp[h2])]
   have h3:=qtu.1 h2
   have h4:∀ l∈g,l.Pairwise (·<·)∧∀ x∈l,0≤x∧x<(g.length:Int):=fun l hl=>by
    have:=qhJ.1 (h3 l hl)
    exact ⟨this.1.1,this.2⟩
   by_cases h5:600<gtot g
   ·rw[if_pos h5];simp;omega
   ·rw[if_neg h5]
    exact ⟨fun _=>⟨by omega,h4,by omega⟩,fun _=>rfl⟩
  ·rw[if_pos h2]
   refine ⟨fun h=>absurd h h2,fun h=>absurd (qtu.2 fun l hl=>qhJ.2 ⟨⟨(h.2.1 l hl).1,fun x hx=>?_⟩,(h.2.1 l hl).2⟩) h2⟩
   have:=(h.2.1 l hl).2 x hx;omega
theorem qko {g:List (qAE)}(h:Gr g){l:qAE}(hl:l∈g):l.length≤100:=by
 have h1:=(h.2.1 l hl).2
 have h2:rowE g.length (-1) l=0:=qhJ.2 ⟨⟨(h.2.1 l hl).1,fun x hx=>by have:=h1 x hx;omega⟩,h1⟩
 have:=qhK (by omega) (by omega) h2
 have:=h.1
 omega
theorem qoQ {F:Nat}{rec38:(Int×Int)→Option Int}{g:List (qAE)}{m i:Int}{l:qAE}(hg:g.length≤100):∀ (k j:Nat) (last:Int),102<k+j→(j:Int)≤last+1→last<g.length→-1≤last →
  yV F rec38 g m i l k (last,(j:Int))=if rowE g.length last (l.drop j)≠0 then some (rowE g.length last (l.drop j)) else qbA F rec38 m i l
 | 0,j,last,h,h1,h2,h3=>by omega
 | k+1,j,last,h,h1,h2,h3=>by
  show qbz F rec38 g m i l (yV F rec38 g m i l k) last (j:Int)=_
  unfold qbz
  by_cases hlt:j<l.length
  ·rw[if_pos (by simp;omega),qs,qxR hlt,qxT hlt]
   simp only[qxP]
   unfold rowE
   by_cases c1:l[j]<0∨(g.length:Int)≤l[j]
   ·rw[if_pos (by simpa using c1),if_pos c1,if_pos (by decide)]
   ·rw[if_neg (by simpa using c1),if_neg c1]
    by_cases c2:l[j]≤last
    ·rw[if_pos (by simpa using c2),if_pos c2,if_pos (by decide)]
    ·rw[if_neg (by simpa using c2),if_neg c2,qw (by omega)]
     exact qoQ hg k (j+1) l[j] (by omega) (by omega) (by omega) (by omega)
  ·rw[if_neg (by simp;omega),qxW (by omega)]
   rw[if_neg (by simp[rowE])]
theorem qlU {F:Nat}(hF:1000≤F){g:List (qAE)}(hg:g.length≤100):∀ (k i:Nat) (m:Nat),g.length<k+i→i≤g.length→m≤100*i →
  zm F g k ((m:Int),(i:Int))=if gE g.length (g.drop i)≠0 then some (gE g.length (g.drop i)) else if 600<m+gtot (g.drop i) then some 2 else some 0
 | 0,_,_,_,_,_=>by omega
 | k+1,i,m,h,hi,hm=>by
  show qby F g (zm F g k) (m:Int) (i:Int)=_
  unfold qby
  by_cases hlt:i<g.length
  ·rw[if_pos (by simp;omega),qs,qxR hlt,qxT hlt]
   simp only[qxP]
   have hin:=qoQ (F:=F) (rec38:=zm F g k) (m:=(m:Int)) (i:=(i:Int)) (l:=g[i]) hg F 0 (-1) (by omega) (by omega) (by omega) (by omega)
   rw[qx8,show ((0:Nat):Int)=0 from rfl] at hin
   rw[hin]
   unfold gE gtot
   by_cases hr:rowE g.length (-1) g[i]=0
   ·have hlen:=qhK (by omega) (by omega) hr
    have e:(if rowE (g.length:Int) (-1) g[i]≠0 then rowE (g.length:Int) (-1) g[i] else gE (g.length:Int) (g.drop (i+1)))=gE (g.length:Int) (g.drop (i+1)):=if_neg (by simp[hr])
    rw[if_neg (show ¬ rowE (g.length:Int) (-1) g[i]≠0 by simp[hr]),e]
    unfold qbA qdP
    rw[jN (by omega),qw (by omega),qlU hF hg k (i+1) (m+g[i].length) (by omega) (by omega) (by omega),qyM]
   ·rw[if_pos (by simpa using hr)]
    have e:(if rowE (g.length:Int) (-1) g[i]≠0 then rowE (g.length:Int) (-1) g[i] else gE (g.length:Int) (g.drop (i+1)))=rowE (g.length:Int) (-1) g[i]:=if_pos hr
    rw[e,if_pos hr]
  ·rw[if_neg (by simp;omega),qxW (by omega)]
   unfold qdO
   rw[if_neg (show ¬ gE (g.length:Int) []≠0 by simp[gE])]
   by_cases h6:600<m
   ·rw[if_pos (by simp;omega),if_pos (by simpa[gtot] using h6)]
   ·rw[if_neg (by simp;omega),if_neg (by simpa[gtot] using h6)]
theorem qgh {F:Nat}(hF:1000≤F){g:List (qAE)}:qbe F g=some (gchk g):=by
 unfold qbe gchk
 by_cases h:100<g.length
 ·rw[if_pos (by simp;omega),if_pos h]
 ·have:=qlU hF (g:=g) (by omega) F 0 0 (by omega) (by omega) (by omega)
  rw[qx8,qyI,show ((0:Nat):Int)=0 from rfl] at this
  rw[if_neg (by simp;omega),if_neg h,this]
  split
  ·rfl
  ·split <;> rfl
theorem qmn {F:Nat}{rec138:(Int×Int)→Option Int}{g:List (qAE)}{i m:Nat}{l:qAE}(hg:g.length≤100)(hl:g[i]?=some l)(hm:m≤100000):∀ (k j:Nat),102<k+j→j≤l.length→((j:Int)≤(if 0<j then l.getD (j-1) 0 else -1)+1)→((if 0<j then l.getD (j-1) 0 else -1)<(g.length:Int)) →
  zo F rec138 g (i:Int) k (((m+j:Nat):Int),(j:Int))=if rowE g.length (if 0<j then l.getD (j-1) 0 else -1) (l.drop j)≠0 then some (rowE g.length (if 0<j then l.getD (j-1) 0 else -1) (l.drop j)) else kw F rec138 (i:Int) ((m+l.length:Nat):Int)
 | 0,j,h,hj,h1,h2=>by omega
 | k+1,j,h,hj,h1,h2=>by
  have hg0:0<g.length:=by have:=(qx5.1 hl).1;omega
  show jQ F rec138 g (i:Int) (zo F rec138 g (i:Int) k) ((m+j:Nat):Int) (j:Int)=_
  unfold jQ
  rw[qs,hl]
  simp only[qxP]
  by_cases hlt:j<l.length
  ·have hrec:=qmn (F:=F) (rec138:=rec138) hg hl hm k (j+1) (by omega) (by omega)
   have hgd:l.getD (j+1-1) 0=l[j]:=by simp[List.getD,qxR hlt]
   rw[if_pos (show 0<j+1 by omega),hgd] at hrec
   rw[if_pos (by simp;omega),qs,qxR hlt,qxT hlt]
   simp only[qxP]
   unfold zC rowE
   rw[jZ (by omega) (by omega)]
   simp only[qxP]
   by_cases c1:l[j]<0∨(g.length:Int)≤l[j]
   ·rw[if_pos (by simp;omega),if_pos c1,if_pos (by decide)]
   ·rw[if_neg (by simp;omega),if_neg c1]
    have hgo:kx F (zo F rec138 g (i:Int) k) ((m+j:Nat):Int) (j:Int) false=(if rowE (g.length:Int) l[j] (l.drop (j+1))≠0 then some (rowE (g.length:Int) l[j] (l.drop (j+1))) else kw F rec138 (i:Int) ((m+l.length:Nat):Int))→(l[j]≤(if 0<j then l.getD (j-1) 0 else -1))=False →
      kx F (zo F rec138 g (i:Int) k) ((m+j:Nat):Int) (j:Int) false=if (if l[j]≤(if 0<j then l.getD (j-1) 0 else -1) then 4 else rowE (g.length:Int) l[j] (l.drop (j+1)))≠0 then some (if l[j]≤(if 0<j then l.getD (j-1) 0 else -1) then 4 else rowE (g.length:Int) l[j] (l.drop (j+1))) else kw F rec138 (i:Int) ((m+l.length:Nat):Int):=by
     intro h3 h4
     simp only[h4,if_false]
     exact h3
    have hnext:(¬ l[j]≤(if 0<j then l.getD (j-1) 0 else -1))→kx F (zo F rec138 g (i:Int) k) ((m+j:Nat):Int) (j:Int) false=if rowE (g.length:Int) l[j] (l.drop (j+1))≠0 then some (rowE (g.length:Int) l[j] (l.drop (j+1))) else kw F rec138 (i:Int) ((m+l.length:Nat):Int):=by
     intro hn
     unfold kx
     rw[if_neg (by simp),qw (by omega),qw (by omega)]
     exact hrec (by omega) (by omega)
    by_cases hj0:0<j
    ·have hlt2:j-1<l.length:=by omega
     have hgd2:l.getD (j-1) 0=l[j-1]:=by simp[List.getD,qxR hlt2]
     rw[if_pos (by simp;omega),jZ (by omega) (by omega),qs,qxR hlt2]
     simp only[qxP]
     by_cases c2:l[j]≤l[j-1]
     ·rw[decide_eq_true c2,if_pos hj0,hgd2,if_pos c2,if_pos (by decide)]
      rfl
     ·rw[decide_eq_false c2]
      exact hgo (hnext (by rw[if_pos hj0,hgd2];exact c2)) (by rw[if_pos hj0,hgd2];exact eq_false c2)
    ·have:j=0:=by omega
     subst this
     rw[if_neg (by simp)]
     exact hgo (hnext (by simp;omega)) (by simp;omega)
  ·rw[if_neg (by simp;omega),qxW (by omega),show m+j=m+l.length from by omega,if_neg (by simp[rowE])]
theorem qkG {F:Nat}(hF:1000≤F){g:List (qAE)}(hg:g.length≤100):∀ (k i:Nat) (m:Nat),g.length<k+i→i≤g.length→m≤100*i →
  qX F g k ((m:Int),(i:Int))=if gE g.length (g.drop i)≠0 then some (gE g.length (g.drop i)) else if 600<m+gtot (g.drop i) then some 2 else some 0
 | 0,_,_,_,_,_=>by omega
 | k+1,i,m,h,hi,hm=>by
  show jP F g (qX F g k) (m:Int) (i:Int)=_
  unfold jP
  by_cases hlt:i<g.length
  ·rw[if_pos (by simp;omega),qxT hlt]
   have hin:=qmn (F:=F) (rec138:=qX F g k) (m:=m) (i:=i) (l:=g[i]) hg (qxR hlt) (by omega) F 0 (by omega) (by omega) (by simp) (by simp;omega)
   rw[qx8,show ((0:Nat):Int)=0 from rfl,qyP,if_neg (show ¬ 0<0 by omega)] at hin
   rw[hin]
   unfold gE gtot
   by_cases hr:rowE g.length (-1) g[i]=0
   ·have hlen:=qhK (by omega) (by omega) hr
    have e:(if rowE (g.length:Int) (-1) g[i]≠0 then rowE (g.length:Int) (-1) g[i] else gE (g.length:Int) (g.drop (i+1)))=gE (g.length:Int) (g.drop (i+1)):=if_neg (by simp[hr])
    rw[if_neg (show ¬ rowE (g.length:Int) (-1) g[i]≠0 by simp[hr]),e]
    unfold kw
    rw[qw (by omega),qkG hF hg k (i+1) (m+g[i].length) (by omega) (by omega) (by omega),qyM]
   ·have e:(if rowE (g.length:Int) (-1) g[i]≠0 then rowE (g.length:Int) (-1) g[i] else gE (g.length:Int) (g.drop (i+1)))=rowE (g.length:Int) (-1) g[i]:=if_pos hr
    rw[if_pos (by simpa using hr),e,if_pos hr]
  ·rw[if_neg (by simp;omega),qxW (by omega)]
   unfold qdk
   rw[if_neg (show ¬ gE (g.length:Int) []≠0 by simp[gE])]
   by_cases h6:600<m
   ·rw[if_pos (by simp;omega),if_pos (by simpa[gtot] using h6)]
   ·rw[if_neg (by simp;omega),if_neg (by simpa[gtot] using h6)]
theorem qhj {F:Nat}(hF:1000≤F){g:List (qAE)}:qbQ F g=some (gchk g):=by
 unfold qbQ gchk
 by_cases h:100<g.length
 ·rw[if_pos (by simp;omega),if_pos h]
 ·have:=qkG hF (g:=g) (by omega) F 0 0 (by omega) (by omega) (by omega)
  rw[qx8,qyI,show ((0:Nat):Int)=0 from rfl] at this
  rw[if_neg (by simp;omega),if_neg h,this]
  split
  ·rfl
  ·split <;> rfl
def af (i:Nat):List (qAE)→List (Int×Int)
 | []=>[]
 | l::g=>l.map (fun x=>((i:Int),x))++af (i+1) g
theorem qs3:∀ (i:Nat) (g:List (qAE)),(af i g).length=gtot g
 | _,[]=>rfl
 | i,l::g=>by unfold af gtot;rw[qxQ,qyG,qs3 (i+1) g]
def pkH (B:Int)(r:Nat):qAE:=if 0<B then ga r else []
def pkF (g:List (qAE))(i r:Nat):qAE:=if 0<r then g.getD (i-r) [] else []
def pkW (g:List (qAE))(B least:Int)(k i r:Nat):qAE:=pkH B r++enc (i:Int) (g.getD i []) (pkF g i r) (r:Int) least k
def bwy (f:Nat→qAE):Nat→Nat×qAE
 | 0=>(0,f 0)
 | n+1=>if (f (n+1)).length<(bwy f n).2.length then (n+1,f (n+1)) else bwy f n
theorem qtf (f:Nat→qAE):∀ n:Nat,(bwy f n).1≤n∧(bwy f n).2=f (bwy f n).1
 | 0=>⟨qyb _,rfl⟩
 | n+1=>by
  have:=qtf f n
  unfold bwy
  split
  ·exact ⟨qyb _,rfl⟩
  ·exact ⟨by omega,this.2⟩
theorem qq5 (f:Nat→qAE):∀ {n r:Nat},r≤n→(bwy f n).2.length≤(f r).length
 | 0,r,h=>by
  have:r=0:=by omega
  subst this;exact qyb _
 | n+1,r,h=>by
  unfold bwy
  by_cases hr:r=n+1
  ·subst hr
   split
   ·exact qyb _
   ·omega
  ·have:=qq5 f (n:=n) (r:=r) (by omega)
   split
   ·simp only;omega
   ·exact this
theorem qlT {f f':Nat→qAE}:∀ {n:Nat},(∀ r,r≤n→f r=f' r)→bwy f n=bwy f' n
 | 0,h=>by unfold bwy;rw[h 0 (qyb _)]
 | n+1,h=>by
  unfold bwy
  rw[h (n+1) (qyb _),qlT (n:=n) fun r hr=>h r (by omega)]
def pkN (g:List (qAE))(B least:Int)(k i:Nat):Nat×qAE:=bwy (pkW g B least k i) (min B.toNat i)
def pkA (g:List (qAE))(B least:Int)(k:Nat):Nat→qAE×qAE×qAE
 | 0=>([],[],[])
 | n+1=>((pkA g B least k n).1++(pkN g B least k n).2,(pkA g B least k n).2.1++[((pkN g B least k n).1:Int)],(pkA g B least k n).2.2++[((pkA g B least k n).1.length:Int)])
def pkE (g:List (qAE))(B least k:Int):Int:=if gchk g≠0 then gchk g else if hcE B least k≠0 then hcE B least k else if 8192<(pkA g B least k.toNat g.length).1.length then 8 else 0
theorem qe3 {g:List (qAE)}{B least k:Int}(h:pkE g B least k=0):gchk g=0∧hcE B least k=0∧(pkA g B least k.toNat g.length).1.length≤8192:=by
 unfold pkE at h
 by_cases h1:gchk g=0
 ·rw[if_neg (by simp[h1])] at h
  by_cases h2:hcE B least k=0
  ·rw[if_neg (by simp[h2])] at h
   by_cases h3:8192<(pkA g B least k.toNat g.length).1.length
   ·rw[if_pos h3] at h;simp at h
   ·exact ⟨h1,h2,by omega⟩
  ·rw[if_pos h2] at h;exact absurd h h2
 ·rw[if_pos h1] at h;exact absurd h h1
theorem qtX {g:List (qAE)}{B least k:Int}(h1:gchk g=0)(h2:hcE B least k=0)(h3:(pkA g B least k.toNat g.length).1.length≤8192):pkE g B least k=0:=by
 unfold pkE
 rw[if_neg (by simp[h1]),if_neg (by simp[h2]),if_neg (by omega)]
theorem qnM {g:List (qAE)}{B least:Int}{k:Nat}:∀ {n i:Nat},i≤n→∃ R,(pkA g B least k n).1=(pkA g B least k i).1++R
 | 0,i,h=>by
  have:i=0:=by omega
  subst this;exact ⟨[],by simp⟩
 | n+1,i,h=>by
  by_cases hi:i=n+1
  ·subst hi;exact ⟨[],by simp⟩
  ·obtain ⟨R,hR⟩:=qnM (g:=g) (B:=B) (least:=least) (k:=k) (n:=n) (i:=i) (by omega)
   exact ⟨R++(pkN g B least k n).2,by rw[pkA,hR];simp⟩
theorem qkB {g:List (qAE)}{B least:Int}{k:Nat}:∀ n:Nat,(pkA g B least k n).2.1.length=n∧(pkA g B least k n).2.2.length=n
 | 0=>⟨rfl,rfl⟩
 | n+1=>by
  have:=qkB (g:=g) (B:=B) (least:=least) (k:=k) n
  simp only[pkA,qxQ,qz6]
  omega
theorem qpg {g:List (qAE)}{B least:Int}{k n i:Nat}(h:i≤n):(pkA g B least k i).1.length≤(pkA g B least k n).1.length:=by
 obtain ⟨R,hR⟩:=qnM (g:=g) (B:=B) (least:=least) (k:=k) h
 rw[hR,qxQ];omega
theorem qje {g:List (qAE)}{B least:Int}{k i:Nat}:(pkN g B least k i).1≤min B.toNat i∧(pkN g B least k i).2=pkW g B least k i (pkN g B least k i).1:=qtf _ _
theorem qtW {g:List (qAE)}{B least:Int}{k n i:Nat}(h:i<n):∃ R,(pkA g B least k n).1=(pkA g B least k i).1++((pkH B (pkN g B least k i).1++enc (i:Int) (g.getD i []) (pkF g i (pkN g B least k i).1) ((pkN g B least k i).1:Int) least k)++R):=by
 obtain ⟨R,hR⟩:=qnM (g:=g) (B:=B) (least:=least) (k:=k) (n:=n) (i:=i+1) h
 refine ⟨R,?_⟩
 rw[hR,pkA]
 have:=(qje (g:=g) (B:=B) (least:=least) (k:=k) (i:=i)).2
 unfold pkW at this
 rw[this]
 simp only[qxS]
theorem qkn {g:List (qAE)}(h:Gr g){l:qAE}(hl:l∈g):gkc l=0:=by
 have h1:=h.2.1 l hl
 have h2:=qko h hl
 have h3:=h.1
 refine zn.2 ⟨by omega,qnS h1.1 (fun z hz=>?_) fun z hz=>?_⟩
 ·have:=h1.2 z hz;omega
 ·have:=h1.2 z hz;unfold Nd;omega
theorem qi9 {g:List (qAE)}(h:Gr g)(i:Nat):gkc (g.getD i [])=0:=by
 by_cases hi:i<g.length
 ·rw[qyo,qxR hi]
  exact qkn h (qx9 hi)
 ·rw[qyo,qyi (by omega)]
  decide
theorem qjY {g:List (qAE)}(h:Gr g)(i r:Nat):gkc (pkF g i r)=0:=by
 unfold pkF
 split
 ·exact qi9 h _
 ·decide
def pkO (l:qAE)(B:Int)(node p:Nat):Option (Int×Nat):=if B=0 then some (0,p) else rgam l p (min B (node:Int))
def pkR (l:qAE)(B least:Int)(k:Nat):Nat→List (qAE)→Nat→Option (List (qAE)×Nat)
 | 0,out,p=>some (out,p)
 | m+1,out,p=>(pkO l B out.length p).bind fun o=>(rdl l o.2 (out.length:Int) (pkF out out.length o.1.toNat) o.1 least k).bind fun r=>pkR l B least k m (out++[r.1]) r.2
theorem qqN {g:List (qAE)}{i:Nat}(h:i<g.length):g.take i++[g.getD i []]=g.take (i+1):=by
 rw[qzu,qyo,qxR h]
 rfl
theorem qtY {g:List (qAE)}{i r:Nat}(h:r≤i)(_hi:i≤g.length):pkF (g.take i) i r=pkF g i r:=by
 unfold pkF
 split
 ·rw[qyo,qyo,List.getElem?_take,if_pos (by omega)]
 ·rfl
theorem qjZ {g:List (qAE)}(hg:Gr g){B least:Int}{k:Nat}(hh:hcE B least (k:Int)=0)(hl:(pkA g B least k g.length).1.length≤8192)(T:qAE):∀ (m i:Nat),i+m=g.length →
  pkR ((pkA g B least k g.length).1++T) B least k m (g.take i) (pkA g B least k i).1.length=some (g,(pkA g B least k g.length).1.length)
 | 0,i,h=>by
  have:i=g.length:=by omega
  subst this
  simp[pkR]
 | m+1,i,h=>by
  have hi:i<g.length:=by omega
  obtain ⟨k1,k2,k',hk,k3,k4⟩:=qam hh
  have hkk:k=k':=by omega
  subst hkk
  obtain ⟨hr,_⟩:=qje (g:=g) (B:=B) (least:=least) (k:=k) (i:=i)
  have hgl:=hg.1
  have hti:(g.take i).length=i:=by rw[qye];omega
  obtain ⟨R,hR⟩:=qtW (g:=g) (B:=B) (least:=least) (k:=k) hi
  have hnext:=qjZ hg hh hl T m (i+1) (by omega)
  have hA:(pkA g B least k (i+1)).1.length=(pkA g B least k i).1.length+(pkH B (pkN g B least k i).1).length+(enc (i:Int) (g.getD i []) (pkF g i (pkN g B least k i).1) ((pkN g B least k i).1:Int) least k).length:=by
   have:=(qje (g:=g) (B:=B) (least:=least) (k:=k) (i:=i)).2
   rw[pkA,this]
   unfold pkW
   simp only[qxQ];omega
  have hO:pkO ((pkA g B least k g.length).1++T) B i (pkA g B least k i).1.length=some (((pkN g B least k i).1:Int),(pkA g B least k i).1.length+(pkH B (pkN g B least k i).1).length):=by
   unfold pkO pkH
   by_cases hB:B=0
   ·have:(pkN g B least k i).1=0:=by rw[hB] at hr ⊢;simp at hr;exact hr
    rw[if_pos hB,this,if_neg (by omega)]
    simp
   ·rw[if_neg hB,if_pos (by omega)]
    rw[hR]
    unfold pkH
    rw[if_pos (by omega)]
    simp only[qxS]
    exact qf5 (by omega) (by omega) _ _
  unfold pkR
  rw[hti,hO]
  simp only[qxP,qxU]
  rw[qtY (by omega) (by omega)]
  have hE:(enc (i:Int) (g.getD i []) (pkF g i (pkN g B least k i).1) ((pkN g B least k i).1:Int) least k).length≤8192:=by
   have:=qpg (g:=g) (B:=B) (least:=least) (k:=k) (show i+1≤g.length from hi)
   omega
  have hD:=qvR (k:=k) k3 k4 (node:=(i:Int)) (back:=((pkN g B least k i).1:Int)) (least:=least) (x:=g.getD i []) (fr:=pkF g i (pkN g B least k i).1) (by unfold Nd;omega) k2 (qi9 hg i) (fun _=>qjY hg _ _) ((pkA g B least k i).1++pkH B (pkN g B least k i).1) (R++T) hE
  rw[hR]
  simp only[qxS,qxQ] at hD ⊢
  rw[hD]
  simp only[qxP]
  rw[qqN hi]
  rw[hR] at hnext
  simp only[qxS,qxQ] at hnext
  rw[← hnext,hA]
theorem qtF {B least k:Int}{r:Nat}(h:hcE B least k=0)(hr:(r:Int)≤B):hcE (r:Int) least k=0:=by
 unfold hcE at h ⊢
 by_cases hb:hcB B least k
 ·rw[if_pos hb] at h;simp at h
 ·rw[if_neg (by unfold hcB at hb ⊢;omega)]
theorem qr8 {F:Nat}(hF:2000000≤F){A:List (qAE)}{x fr H:qAE}{r i k:Nat}{least:Int}(hA:A.length=i)(hi:i≤100)(hx:gkc x=0)(hfr:gkc fr=0)(hh:hcE (r:Int) least (k:Int)=0)(hH:Bit H)(hHl:H.length≤100) :
  qbZ F A x (r:Int) least (k:Int) (H.length:Int) (pk H) fr=some (if (H++enc (i:Int) x fr (r:Int) least k).length≤8192 then ((r:Int),((H++enc (i:Int) x fr (r:Int) least k).length:Int),pk (H++enc (i:Int) x fr (r:Int) least k),true) else (0,0,[],false)):=by
 unfold qbZ
 rw[qsM hF,hA]
 simp only[qxP]
 have hE:swE (i:Int) x fr (r:Int) least (k:Int)=0:=qxf hh (by unfold Nd;omega) hx (fun _=>hfr)
 rw[qxQ]
 by_cases h1:(enc (i:Int) x fr (r:Int) least k).length≤8192
 ·have hs:=qxH hE (by rw[qxU];exact h1)
  rw[qxU] at hs
  rw[hs]
  simp only
  rw[qA (by omega) (by omega)]
  by_cases h2:H.length+(enc (i:Int) x fr (r:Int) least k).length≤8192
  ·rw[if_neg (by simp;omega),if_pos h2,qnn (by omega) (qf2 hH) (qf2 qnu) (qiM (by omega)) (qiM h1),qcC hH,qcC qnu]
   rfl
  ·rw[if_pos (by simp;omega),if_neg h2]
 ·have hs:sw (i:Int) x fr (r:Int) least (k:Int)=(0,[],8):=by
   unfold sw
   rw[if_neg (by simp[hE]),qxU,if_pos (by omega)]
  rw[hs,if_pos (by simp),if_neg (by omega)]
theorem qwp {F:Nat}(hF:2000000≤F){g:List (qAE)}(hg:Gr g){B least:Int}{k i r:Nat}(hh:hcE B least (k:Int)=0)(hi:i≤g.length)(hr:r≤min B.toNat i) :
  qfX F (g.take i) (g.getD i []) (r:Int) B least (k:Int)=some (if (pkW g B least k i r).length≤8192 then ((r:Int),((pkW g B least k i r).length:Int),pk (pkW g B least k i r),true) else (0,0,[],false)):=by
 have hgl:=hg.1
 have hti:(g.take i).length=i:=by rw[qye];omega
 obtain ⟨k1,-,-⟩:=qam hh
 have hh':hcE (r:Int) least (k:Int)=0:=qtF hh (by omega)
 have hj:∀ H:qAE,Bit H→H.length≤100→qbY F (g.take i) (g.getD i []) (r:Int) least (k:Int) (H.length:Int) (pk H)=some (if (H++enc (i:Int) (g.getD i []) (pkF g i r) (r:Int) least k).length≤8192 then ((r:Int),((H++enc (i:Int) (g.getD i []) (pkF g i r) (r:Int) least k).length:Int),pk (H++enc (i:Int) (g.getD i []) (pkF g i r) (r:Int) least k),true) else (0,0,[],false)):=by
  intro H hH hHl
  unfold qbY
  by_cases h0:0<r
  ·rw[if_pos (by simpa using h0),hti,qG (by omega) (by omega),show ((i:Int)-(r:Int))=((i-r:Nat):Int) from by omega,qs,List.getElem?_take,if_pos (by omega),qxR (show i-r<g.length by omega)]
   simp only[qxP]
   have e:g[i-r]'(by omega)=pkF g i r:=by
    unfold pkF
    rw[if_pos h0,qyo,qxR (show i-r<g.length by omega)]
    rfl
   rw[e]
   exact qr8 hF hti (by omega) (qi9 hg i) (qjY hg i r) hh' hH hHl
  ·rw[if_neg (by simpa using h0)]
   have e:pkF g i r=[]:=by unfold pkF;rw[if_neg h0]
   rw[e]
   exact qr8 hF hti (by omega) (qi9 hg i) (by decide) hh' hH hHl
 unfold qfX pkW pkH
 by_cases hB:0<B
 ·have hga:=qd4 (n:=r) (by omega)
  rw[if_pos (by simpa using hB),if_pos hB,kn (by omega),qjw (by omega) (by omega)]
  simp only[qxP]
  exact hj (ga r) (qgL r) (by omega)
 ·rw[if_neg (by simpa using hB),if_neg hB]
  exact hj [] (by intro z hz;simp at hz) (by simp)
def bst (f:Nat→qAE)(j:Nat):Bool×Int×Int×qAE:=if j=0 then (false,0,0,[]) else if (bwy f (j-1)).2.length≤8192 then (true,((bwy f (j-1)).1:Int),((bwy f (j-1)).2.length:Int),pk (bwy f (j-1)).2) else (false,0,0,[])
theorem qs9 {F:Nat}(hF:2000000≤F){g:List (qAE)}(hg:Gr g){B least:Int}{k i:Nat}(hh:hcE B least (k:Int)=0)(hi:i≤g.length):∀ (n j:Nat),min B.toNat i+1<n+j→j≤min B.toNat i+1 →
  kq F (g.take i) (g.getD i []) B least (k:Int) n ((bst (pkW g B least k i) j).1,(j:Int),(bst (pkW g B least k i) j).2.1,(bst (pkW g B least k i) j).2.2.1,(bst (pkW g B least k i) j).2.2.2)=some (if (pkN g B least k i).2.length≤8192 then (((pkN g B least k i).1:Int),((pkN g B least k i).2.length:Int),pk (pkN g B least k i).2,true) else (0,0,[],false))
 | 0,_,_,_=>by omega
 | n+1,j,h,hj=>by
  have hgl:=hg.1
  have hti:(g.take i).length=i:=by rw[qye];omega
  obtain ⟨k1,-,-⟩:=qam hh
  show qdb F (g.take i) (g.getD i []) B least (k:Int) (kq F (g.take i) (g.getD i []) B least (k:Int) n) (bst (pkW g B least k i) j).1 (j:Int) (bst (pkW g B least k i) j).2.1 (bst (pkW g B least k i) j).2.2.1 (bst (pkW g B least k i) j).2.2.2=_
  unfold qdb
  have hmin:imin B ((g.take i).length:Int)=((min B.toNat i:Nat):Int):=by
   rw[hti];unfold imin;split <;> omega
  rw[hmin,qA (by omega) (by omega)]
  by_cases hlt:j<min B.toNat i+1
  ·rw[if_pos (by simp;omega),qwp hF hg hh hi (by omega)]
   simp only[qxP]
   have hrec:=qs9 hF hg hh hi n (j+1) (by omega) (by omega)
   have hnew:(pkW g B least k i j).length≤8192→bwy (pkW g B least k i) j=(j,pkW g B least k i j)→vf F (kq F (g.take i) (g.getD i []) B least (k:Int) n) (j:Int) true (j:Int) ((pkW g B least k i j).length:Int) (pk (pkW g B least k i j))=some (if (pkN g B least k i).2.length≤8192 then (((pkN g B least k i).1:Int),((pkN g B least k i).2.length:Int),pk (pkN g B least k i).2,true) else (0,0,[],false)):=by
    intro h1 h2
    unfold vf
    rw[qw (by omega),← hrec]
    unfold bst
    rw[if_neg (by omega),qym,h2,if_pos h1]
   have hold:bst (pkW g B least k i) (j+1)=bst (pkW g B least k i) j→vf F (kq F (g.take i) (g.getD i []) B least (k:Int) n) (j:Int) (bst (pkW g B least k i) j).1 (bst (pkW g B least k i) j).2.1 (bst (pkW g B least k i) j).2.2.1 (bst (pkW g B least k i) j).2.2.2=some (if (pkN g B least k i).2.length≤8192 then (((pkN g B least k i).1:Int),((pkN g B least k i).2.length:Int),pk (pkN g B least k i).2,true) else (0,0,[],false)):=by
    intro h1
    unfold vf
    rw[qw (by omega),← hrec,h1]
   unfold qdc
   by_cases hl:(pkW g B least k i j).length≤8192
   ·rw[if_pos hl]
    simp only[if_true]
    by_cases h0:j=0
    ·subst h0
     rw[if_pos (by simp[bst])]
     exact hnew hl rfl
    ·obtain ⟨q,rfl⟩:∃ q,j=q+1:=⟨j-1,by omega⟩
     by_cases hb:(bwy (pkW g B least k i) q).2.length≤8192
     ·have e:bst (pkW g B least k i) (q+1)=(true,((bwy (pkW g B least k i) q).1:Int),((bwy (pkW g B least k i) q).2.length:Int),pk (bwy (pkW g B least k i) q).2):=by
       unfold bst
       rw[if_neg (by omega),qym,if_pos hb]
      by_cases hc:(pkW g B least k i (q+1)).length<(bwy (pkW g B least k i) q).2.length
      ·rw[if_pos (by rw[e];simp;omega)]
       exact hnew hl (by rw[bwy,if_pos hc])
      ·rw[if_neg (by rw[e];simp;omega)]
       refine hold ?_
       rw[e]
       unfold bst
       rw[if_neg (by omega),qym,bwy,if_neg hc,if_pos hb]
     ·have e:bst (pkW g B least k i) (q+1)=(false,0,0,[]):=by
       unfold bst
       rw[if_neg (by omega),qym,if_neg hb]
      rw[if_pos (by rw[e];simp)]
      exact hnew hl (by rw[bwy,if_pos (by omega)])
   ·rw[if_neg hl]
    simp only[qxZ,if_false]
    refine hold ?_
    unfold bst
    rw[if_neg (by omega),qym]
    by_cases h0:j=0
    ·subst h0
     rw[if_pos rfl,bwy,if_neg hl]
    ·obtain ⟨q,rfl⟩:∃ q,j=q+1:=⟨j-1,by omega⟩
     rw[if_neg (show ¬ q+1=0 by omega),qym,bwy]
     by_cases hc:(pkW g B least k i (q+1)).length<(bwy (pkW g B least k i) q).2.length
     ·rw[if_pos hc,if_neg hl,if_neg (by omega)]
     ·rw[if_neg hc]
  ·rw[if_neg (by simp;omega)]
   have:j=min B.toNat i+1:=by omega
   subst this
   unfold qfx bst pkN
   rw[if_neg (by omega),qym]
   split <;> rfl
theorem qvh {F:Nat}(hF:2000000≤F){g:List (qAE)}(hg:Gr g){B least:Int}{k i:Nat}(hh:hcE B least (k:Int)=0)(hi:i≤g.length) :
  qfW F (g.take i) (g.getD i []) B least (k:Int)=some (if (pkN g B least k i).2.length≤8192 then (((pkN g B least k i).1:Int),((pkN g B least k i).2.length:Int),pk (pkN g B least k i).2,true) else (0,0,[],false)):=by
 have hgl:=hg.1
 have:=qs9 hF hg hh hi F 0 (by omega) (qyn _)
 exact this
theorem qvM {g:List (qAE)}{B least:Int}{k i r:Nat}:Bit (pkW g B least k i r):=by
 unfold pkW pkH
 refine vX ?_ qnu
 split
 ·exact qgL r
 ·intro z hz;simp at hz
theorem qnN {g:List (qAE)}{B least:Int}{k i:Nat}:Bit (pkN g B least k i).2:=by
 rw[qje.2];exact qvM
theorem qfh {g:List (qAE)}{B least:Int}{k:Nat}:∀ n:Nat,Bit (pkA g B least k n).1
 | 0=>by intro z hz;simp[pkA] at hz
 | n+1=>by unfold pkA;exact vX (qfh n) qnN
theorem qha {g:List (qAE)}{i:Nat}(h:i<g.length):idx g (i:Int)=some (g.getD i []):=by
 rw[qs,qyo,qxR h]
 rfl
theorem qrI {F:Nat}(hF:2000000≤F){g:List (qAE)}(hg:Gr g){N B least:Int}{k:Nat}(hh:hcE B least (k:Int)=0):∀ (j i:Nat),g.length<j+i→i≤g.length→(pkA g B least k i).1.length≤8192 →
  ∃ z,qO F N B least (k:Int) g j ((i:Int),((pkA g B least k i).1.length:Int),pk (pkA g B least k i).1,(pkA g B least k i).2.1,(pkA g B least k i).2.2)=some z∧z.1=decide ((pkA g B least k g.length).1.length≤8192) ∧
   (z.1=true→z=(true,N,B,least,(k:Int),((pkA g B least k g.length).1.length:Int),pk (pkA g B least k g.length).1,(pkA g B least k g.length).2.1,(pkA g B least k g.length).2.2))
 | 0,_,_,_,_=>by omega
 | j+1,i,h,hi,hA=>by
  have hgl:=hg.1
  show ∃ z,vj F N B least (k:Int) g (qO F N B least (k:Int) g j) (i:Int) ((pkA g B least k i).1.length:Int) (pk (pkA g B least k i).1) (pkA g B least k i).2.1 (pkA g B least k i).2.2=some z∧_
  unfold vj
  by_cases hlt:i<g.length
  ·have e0:sub g 0 (i:Int)=some (g.take i):=by
    have:=qfJ (l:=g) (i:=0) (j:=i) (by omega) hi
    simpa using this
   have hstep:(pkA g B least k (i+1)).1.length=(pkA g B least k i).1.length+(pkN g B least k i).2.length:=by rw[pkA,qxQ]
   have hmono:=qpg (g:=g) (B:=B) (least:=least) (k:=k) (show i+1≤g.length from hlt)
   rw[if_pos (by simp;omega),qha hlt,e0]
   simp only[qxP]
   rw[qvh hF hg hh hi]
   simp only[qxP]
   unfold vk
   by_cases h1:(pkN g B least k i).2.length≤8192
   ·rw[if_pos h1]
    simp only[qyE,qxZ,if_false]
    rw[qA (by omega) (by omega)]
    unfold k7
    by_cases h2:(pkA g B least k i).1.length+(pkN g B least k i).2.length≤8192
    ·rw[if_neg (by simp;omega)]
     have hl:=qkB (g:=g) (B:=B) (least:=least) (k:=k) i
     rw[qD (by rw[hl.1];simp;omega)]
     simp only[qxP]
     rw[qD (by rw[hl.2];simp;omega)]
     simp only[qxP]
     unfold k8
     rw[qnn (by omega) (qf2 (qfh i)) (qf2 qnN) (qiM hA) (qiM h1),qcC (qfh i),qcC qnN]
     simp only[qxP]
     have:=qrI hF hg (N:=N) hh j (i+1) (by omega) (by omega) (by omega)
     rw[qw (by omega),← hstep]
     exact this
    ·rw[if_pos (by simp;omega)]
     exact ⟨_,rfl,by simp only;rw[decide_eq_false (by omega)],fun h=>by simp at h⟩
   ·rw[if_neg h1]
    simp only[qzO,if_true]
    unfold k7
    rw[if_pos rfl]
    exact ⟨_,rfl,by simp only;rw[decide_eq_false (by omega)],fun h=>by simp at h⟩
  ·rw[if_neg (by simp;omega)]
   have:i=g.length:=by omega
   subst this
   unfold qaJ
   exact ⟨_,rfl,by simp only;rw[decide_eq_true hA],fun _=>rfl⟩
theorem qsy {F:Nat}(hF:2000000≤F){g:List (qAE)}{B least k:Int} :
  ∃ z1 z2 z3 z4 z5 z6 z7 z8,qeG F g B least k=some (z1,z2,z3,z4,z5,z6,z7,z8,pkE g B least k) ∧
   (pkE g B least k=0→(z1,z2,z3,z4,z5,z6,z7,z8)=((g.length:Int),B,least,k,((pkA g B least k.toNat g.length).1.length:Int),pk (pkA g B least k.toNat g.length).1,(pkA g B least k.toNat g.length).2.1,(pkA g B least k.toNat g.length).2.2)):=by
 unfold qeG
 rw[qgh (by omega)]
 simp only[qxP]
 by_cases h1:gchk g=0
 ·rw[if_pos (by simpa using h1),qjb]
  simp only[qxP]
  unfold qaj
  by_cases h2:hcE B least k=0
  ·rw[if_pos (by simpa using h2)]
   obtain ⟨_,_,k',rfl,_,_⟩:=qam h2
   have hg:=qaQ.1 h1
   have hgl:=hg.1
   obtain ⟨z,hz,hz1,hz2⟩:=qrI hF hg (N:=(g.length:Int)) h2 F 0 (by omega) (qyn _) (by simp[pkA])
   have hz':qdo F (g.length:Int) B least (k':Int) 0 [] [] [] g=some z:=by
    have e:pk ([]:qAE)=[]:=by simp[pk]
    simp only[pkA,qyc,e] at hz
    exact hz
   rw[hz']
   simp only[qxP]
   unfold vF vE
   rw[qxU]
   by_cases h3:(pkA g B least k' g.length).1.length≤8192
   ·rw[decide_eq_true h3] at hz1
    have:=hz2 hz1
    have hE:pkE g B least (k':Int)=0:=qtX h1 h2 (by rw[qxU];exact h3)
    rw[hE,h2]
    subst this
    exact ⟨_,_,_,_,_,_,_,_,rfl,fun _=>rfl⟩
   ·rw[decide_eq_false h3] at hz1
    have hE:pkE g B least (k':Int)=8:=by
     unfold pkE
     rw[if_neg (by simp[h1]),if_neg (by simp[h2]),if_pos (by rw[qxU];omega)]
    rw[hE,hz1]
    exact ⟨_,_,_,_,_,_,_,_,rfl,fun h=>by simp at h⟩
  ·have hE:pkE g B least k=hcE B least k:=by
    unfold pkE
    rw[if_neg (by simp[h1]),if_pos h2]
   rw[if_neg (by simpa using h2),hE]
   unfold vF vE
   exact ⟨_,_,_,_,_,_,_,_,rfl,fun h=>absurd h h2⟩
 ·have hE:pkE g B least k=gchk g:=by
   unfold pkE
   rw[if_pos h1]
  rw[if_neg (by simpa using h1),hE]
  unfold qaj vF vE
  rw[if_neg (by simpa using h1)]
  exact ⟨_,_,_,_,_,_,_,_,rfl,fun h=>absurd h h1⟩
def pwr (g:List (qAE))(B least k:Int):Int×Int×Int×Int×Int×qAE×Int :=
 if pkE g B least k≠0 then (0,0,0,0,0,[],pkE g B least k) else ((g.length:Int),B,least,k,((pkA g B least k.toNat g.length).1.length:Int),pk (pkA g B least k.toNat g.length).1,0)
theorem qml {F:Nat}(hF:2000000≤F){g:List (qAE)}{B least k:Int}:qdT F g B least k=some (pwr g B least k):=by
 obtain ⟨z1,z2,z3,z4,z5,z6,z7,z8,hz,hz2⟩:=qsy hF (g:=g) (B:=B) (least:=least) (k:=k)
 unfold qdT pwr
 rw[hz]
 simp only[qxP]
 by_cases h:pkE g B least k=0
 ·rw[if_neg (by simp[h]),if_neg (by simp[h])]
  have:=hz2 h
  simp only[qzs] at this
  obtain ⟨rfl,rfl,rfl,rfl,rfl,rfl,-,-⟩:=this
  rfl
 ·rw[if_pos (by simpa using h),if_pos h]
theorem qtT {F:Nat}{xs ys:qAE}(he:xs.length=ys.length)(hm:xs.length≤1000000):∀ (k i:Nat),xs.length<k+i→i≤xs.length→zB F xs ys k (i:Int)=some (decide (xs.drop i=ys.drop i))
 | 0,_,_,_=>by omega
 | k+1,i,h,hi=>by
  show kT F xs ys (zB F xs ys k) (i:Int)=_
  unfold kT
  by_cases hlt:i<xs.length
  ·have hlt':i<ys.length:=by omega
   rw[if_pos (by simp;omega),qs,qxR hlt,qs,qxR hlt']
   simp only[qxP]
   rw[qxT hlt,qxT hlt']
   by_cases hc:xs[i]=ys[i]
   ·rw[if_neg (by simp[hc]),qw (by omega),qtT he hm k (i+1) (by omega) (by omega)]
    congr 1
    rw[decide_eq_decide,qzq]
    exact ⟨fun h=>⟨hc,h⟩,fun h=>h.2⟩
   ·rw[if_pos (by simpa using hc),decide_eq_false (fun e=>hc (qAi e).1)]
  ·rw[if_neg (by simp;omega),qxW (by omega),qxW (by omega)]
   rfl
theorem peqb {F:Nat}{xs ys:qAE}(hF:xs.length<F)(hm:xs.length≤1000000):yC F xs ys=some (decide (xs=ys)):=by
 unfold yC
 by_cases h:xs.length=ys.length
 ·rw[if_neg (by simp[h])]
  have:=qtT (F:=F) h hm F 0 (by omega) (qyn _)
  rw[qx8,qx8] at this
  exact this
 ·rw[if_pos (by simp;omega),decide_eq_false (fun e=>h (by rw[e]))]
theorem qmo {l:qAE}{p:Nat}{most:Int}(h:rgam l p most=none):(fg l p).2.2≠0∨most<(fg l p).1:=by
 unfold rgam at h
 by_cases h1:(fg l p).2.2=0
 ·right
  by_cases h2:(fg l p).1≤most
  ·rw[if_pos ⟨h1,h2⟩] at h;simp at h
  ·omega
 ·left;exact h1
theorem qnW {l:qAE}{p:Nat}{most:Int}{x:Int×Nat}(h:rgam l p most=some x):fg l p=(x.1,(x.2:Int),0)∧x.1≤most:=by
 unfold rgam at h
 split at h
 ·rename_i hc
  simp only[qx2] at h
  rw[← h]
  have h3:0≤(fg l p).2.1:=by
   rcases ql0 (l:=l) (a:=p) with h1 | ⟨n,q,h1,h2,h3⟩
   ·exact absurd hc.1 h1
   ·rw[h1];simp
  refine ⟨?_,hc.2⟩
  simp only
  rw[qAe h3,← hc.1]
 ·simp at h
theorem qtZ {l:qAE}{B:Int}(_hB:0≤B){node p:Nat}(hp:p≤l.length){o:Int×Nat}(h:pkO l B node p=some o):0≤o.1∧o.1≤min B (node:Int)∧o.2≤l.length:=by
 unfold pkO at h
 split at h
 ·simp only[qx2] at h
  subst h
  simp only
  omega
 ·have:=vY h
  omega
theorem qvN {F:Nat}(hF:20000≤F){l:qAE}(hl:Bit l)(hm:l.length≤8192){N B least k:Int}(hB:0≤B∧B≤7){node p:Nat}(hn:node≤1000)(hp:p≤l.length) :
  qgH F N B least k (l.length:Int) (pk l) (p:Int) (node:Int)=some (match pkO l B node p with | none=>(0,0,false) | some o=>(o.1,(o.2:Int),true)):=by
 unfold qgH pkO
 by_cases h0:B=0
 ·rw[if_pos (by simpa using h0),if_pos h0]
 ·rw[if_neg (by simpa using h0),if_neg h0,qiF hF hl hm hp]
  simp only[qxP]
  have hmin:imin B (node:Int)=min B (node:Int):=by unfold imin;split <;> omega
  have hcv:iconv .u64 (min B (node:Int))=min B (node:Int):=by
   obtain ⟨q,hq⟩:=qx0 (a:=min B (node:Int)) (by omega)
   rw[hq];exact kn (by omega)
  unfold qeF
  rw[hmin,hcv]
  cases hr:rgam l p (min B (node:Int)) with
  | none =>
   rcases qmo hr with h1 | h1
   ·rw[if_pos (by simpa using h1),if_pos rfl]
   ·by_cases h2:(fg l p).2.2=0
    ·rw[if_neg (by simp[h2]),if_pos (by simpa using h1)]
    ·rw[if_pos (by simpa using h2),if_pos rfl]
  | some x =>
   obtain ⟨h1,h2⟩:=qnW hr
   have hok:=vY hr
   rw[h1]
   simp only
   rw[if_neg (by simp),if_neg (by simp;omega)]
   have e:iconv .i64 x.1=x.1:=qL (by omega) (by omega)
   rw[e]
theorem qpi {F k:Nat}(hF:2000000≤F){l:qAE}(hl:Bit l)(hm:l.length≤8192){B least:Int}(hh:hcE B least (k:Int)=0){n:Nat}(hn:n≤100):∀ (j p:Nat) (out:List (qAE)),n<j+out.length→out.length≤n→p≤l.length→(∀ x∈out,gkc x=0) →
  yl F (n:Int) B least (k:Int) (l.length:Int) (pk l) j (out,(p:Int),(out.length:Int))=some (match pkR l B least k (n-out.length) out p with | none=>([],false) | some r=>(r.1,decide (r.2=l.length)))
 | 0,_,_,_,_,_,_=>by omega
 | j+1,p,out,h,ho,hp,hg=>by
  obtain ⟨k1,k2,k',hk,k3,k4⟩:=qam hh
  have hkk:k=k':=by omega
  subst hkk
  show qdd F (n:Int) B least (k:Int) (l.length:Int) (pk l) (yl F (n:Int) B least (k:Int) (l.length:Int) (pk l) j) out (p:Int) (out.length:Int)=_
  unfold qdd
  by_cases hlt:out.length<n
  ·rw[if_pos (by simp;omega),qvN (by omega) hl hm k1 (by omega) hp,show n-out.length=(n-(out.length+1))+1 from by omega]
   simp only[qxP,pkR]
   cases hO:pkO l B out.length p with
   | none=>rfl
   | some o =>
    obtain ⟨o1,o2,o3⟩:=qtZ k1.1 hp hO
    simp only[qyE,qxZ,if_false,qxP]
    have hfr:gkc (pkF out out.length o.1.toNat)=0:=by
     unfold pkF
     split
     ·rw[qyo]
      by_cases hq:out.length-o.1.toNat<out.length
      ·rw[qxR hq];exact hg _ (qx9 hq)
      ·rw[qyi (by omega)];decide
     ·decide
    have hstep:∀ fr:qAE,fr=pkF out out.length o.1.toNat→((qdw F (l.length:Int) (pk l) (o.2:Int) (out.length:Int) fr o.1 least (k:Int)).bind fun x488=>(if ((x488.2.2:Int) != 0) then some (([]:List (qAE)),false) else ((app 2199023255552 out ([x488.1]:List (qAE))).bind fun x494=>qa0 F (yl F (n:Int) B least (k:Int) (l.length:Int) (pk l) j) (out.length:Int) x494 x488.2.1)))=some (match (rdl l o.2 (out.length:Int) (pkF out out.length o.1.toNat) o.1 least k).bind fun r=>pkR l B least k (n-(out.length+1)) (out++[r.1]) r.2 with | none=>([],false) | some r=>(r.1,decide (r.2=l.length))):=by
     intro fr hfe
     subst hfe
     rw[quB hF k3 k4 hl hm (by unfold Nd;omega) o3 (fun _=>hfr) k2]
     simp only[qxP]
     cases hr:rdl l o.2 (out.length:Int) (pkF out out.length o.1.toNat) o.1 least k with
     | none=>rfl
     | some r =>
      obtain ⟨r1,r2,r3,r4,r5⟩:=qiP hl k3 hr
      simp only[qxP]
      rw[if_neg (by simp),qD (by simp;omega)]
      simp only[qxP]
      unfold qa0
      have hl1:(out++[r.1]).length=out.length+1:=by simp
      have hrec:=qpi hF hl hm hh hn j r.2 (out++[r.1]) (by omega) (by omega) r5 (fun x hx=>by
       rcases qxV.1 hx with hx | hx
       ·exact hg x hx
       ·simp at hx;subst hx;exact r1)
      rw[hl1] at hrec
      rw[qw (by omega),hrec]
    by_cases h0:0<o.1
    ·rw[if_pos (by simpa using h0),qG (by omega) (by omega),show ((out.length:Int)-o.1)=((out.length-o.1.toNat:Nat):Int) from by omega,qha (by omega)]
     simp only[qxP]
     exact hstep _ (by unfold pkF;rw[if_pos (by omega)])
    ·rw[if_neg (by simpa using h0)]
     exact hstep _ (by unfold pkF;rw[if_neg (by omega)])
  ·rw[if_neg (by simp;omega),show n-out.length=0 from by omega]
   unfold qe1
   simp only[pkR]
   congr 2
   by_cases hpl:p=l.length
   ·subst hpl;simp
   ·rw[decide_eq_false hpl];simp;omega
def pcE (N B least k m:Int)(b:qAE):Int:=if N<0∨100<N then 3 else if hcE B least k≠0 then hcE B least k else chkOf m b
def prd (N B least k m:Int)(b:qAE):List (qAE)×Int :=
 if pcE N B least k m b≠0 then ([],pcE N B least k m b) else
 match pkR (bl b m.toNat) B least k.toNat N.toNat [] 0 with
 | none=>([],1)
 | some r=>if r.2=m.toNat∧pkE r.1 B least k=0∧pk (pkA r.1 B least k.toNat r.1.length).1=b then (r.1,0) else ([],1)
theorem qqs {F:Nat}{N B least k m:Int}{b:qAE}(hb:U8s b)(hm:I64 m)(lb:b.length≤9223372036854775807):qfb F N B least k m b=some (pcE N B least k m b):=by
 unfold qfb pcE
 by_cases h1:N<0∨100<N
 ·rw[if_pos (by simpa using h1),if_pos h1]
 ·rw[if_neg (by simpa using h1),if_neg h1,qjb]
  simp only[qxP]
  by_cases h2:hcE B least k=0
  ·rw[if_neg (by simp[h2]),if_neg (by simp[h2]),qoP hb hm.1 hm.2 lb]
   rfl
  ·rw[if_pos (by simpa using h2),if_pos h2]
theorem qqr {N B least k m:Int}{b:qAE}(hb:U8s b)(h:pcE N B least k m b=0):∃ (n:Nat) (l:qAE),N=(n:Int)∧n≤100∧hcE B least k=0∧Bit l∧l.length≤8192∧m=(l.length:Int)∧b=pk l:=by
 unfold pcE at h
 by_cases h1:N<0∨100<N
 ·rw[if_pos h1] at h;simp at h
 ·rw[if_neg h1] at h
  by_cases h2:hcE B least k=0
  ·rw[if_neg (by simp[h2])] at h
   rcases qoS hb (n:=m) with h3 | ⟨l,hl,hm,e1,e2⟩
   ·exact absurd h h3
   ·exact ⟨N.toNat,l,by omega,by omega,h2,hl,hm,e1,e2⟩
  ·rw[if_pos h2] at h;exact absurd h h2
theorem qt5 {F:Nat}(hF:2000000≤F){N B least k m:Int}{b:qAE}(hb:U8s b)(hm:I64 m)(lb:b.length≤9223372036854775807):qfV F N B least k m b=some (prd N B least k m b):=by
 unfold qfV prd
 rw[qqs hb hm lb]
 simp only[qxP]
 by_cases h:pcE N B least k m b=0
 ·rw[if_neg (by simp[h]),if_neg (by simp[h])]
  obtain ⟨n,l,rfl,hn,hh,hl,hlm,rfl,rfl⟩:=qqr hb h
  obtain ⟨k1,k2,k',rfl,k3,k4⟩:=qam hh
  have hL:=qpi (F:=F) hF hl hlm hh hn F 0 [] (by simp;omega) (qyn _) (qyn _) (by simp)
  have hL':qgI F (n:Int) B least (k':Int) (l.length:Int) (pk l)=_:=hL
  rw[hL']
  simp only[qxP,qyc,qy9,qxU,qcC hl]
  cases hr:pkR l B least k' n [] 0 with
  | none=>rfl
  | some r =>
   simp only
   by_cases hp:r.2=l.length
   ·rw[decide_eq_true hp,if_neg (by simp),qml hF]
    simp only[qxP]
    unfold pwr qdS
    by_cases hE:pkE r.1 B least (k':Int)=0
    ·rw[if_neg (by simp[hE])]
     simp only[qxU]
     obtain ⟨_,_,hA⟩:=qe3 hE
     rw[qxU] at hA
     rw[if_neg (by simp[hE]),peqb (by rw[qhg];omega) (by rw[qhg];omega)]
     simp only[qxP]
     by_cases hq:pk (pkA r.1 B least k' r.1.length).1=pk l
     ·rw[decide_eq_true hq,if_neg (by simp),if_pos ⟨hp,hE,hq⟩]
     ·rw[decide_eq_false hq,if_pos (by simp),if_neg (fun hc=>hq hc.2.2)]
    ·rw[if_pos hE,if_pos (by simpa using hE),if_pos rfl,if_neg (fun hc=>hE hc.2.1)]
   ·rw[decide_eq_false hp,if_pos (by simp),if_neg (fun hc=>hp hc.1)]
 ·rw[if_pos (by simpa using h),if_pos h]
theorem quj {l:qAE}(hl:Bit l){p:Nat}{most:Int}{x:Int×Nat}(h:rgam l p most=some x):x.2=p+(ga x.1.toNat).length:=by
 have hf:=(qnW h).1
 unfold fg at hf
 cases hz:fz (l.drop p) with
 | none=>rw[hz] at hf;simp at hf
 | some k =>
  rw[hz] at hf
  simp only at hf
  unfold numOf at hf
  by_cases h1:64≤k
  ·rw[if_pos h1] at hf;simp at hf
  ·rw[if_neg h1] at hf
   by_cases h2:l.length<p+k+1+k
   ·rw[if_pos h2] at hf;simp at hf
   ·rw[if_neg h2] at hf
    by_cases h3:1099511627776<bv ((l.drop (p+k+1)).take k)+2^k-1
    ·rw[if_pos h3] at hf;simp at hf
    ·rw[if_neg h3] at hf
     simp only[qzs,and_true] at hf
     have hb:=qkd (qfC (qeS hl (p+k+1)) k)
     rw[qye,qya,Nat.min_eq_left (by omega)] at hb
     have hp0:0<2^k:=Nat.pow_pos (by decide)
     have hn:x.1.toNat=bv ((l.drop (p+k+1)).take k)+2^k-1:=by omega
     have hlg:lg x.1.toNat=k:=qsv (by omega) (by rw[Nat.pow_succ];omega)
     rw[qnx,hlg]
     omega
theorem qvL {l:qAE}(hl:Bit l){B:Int}(hB:0≤B){node p:Nat}{o:Int×Nat}(h:pkO l B node p=some o):o.2=p+(pkH B o.1.toNat).length:=by
 unfold pkO at h
 unfold pkH
 split at h
 ·rename_i h0
  simp only[qx2] at h
  subst h
  rw[if_neg (by omega)]
  simp
 ·rw[if_pos (by omega)]
  exact quj hl h
theorem qo1 {g:List (qAE)}{x:qAE}{i:Nat}(h:i<g.length):(g++[x]).getD i []=g.getD i []:=by
 rw[qyo,qyo,List.getElem?_append_left h]
theorem qrG {g:List (qAE)}{x:qAE}{i r:Nat}(h:i≤g.length)(hr:r≤i):pkF (g++[x]) i r=pkF g i r:=by
 unfold pkF
 split
 ·exact qo1 (by omega)
 ·rfl
theorem qvK {g:List (qAE)}{x:qAE}{B least:Int}{k i:Nat}(h:i<g.length):pkN (g++[x]) B least k i=pkN g B least k i:=by
 unfold pkN
 refine qlT fun r hr=>?_
 unfold pkW
 rw[qo1 h,qrG (by omega) (by omega)]
theorem qrE {g:List (qAE)}{x:qAE}{B least:Int}{k:Nat}:∀ {i:Nat},i≤g.length→pkA (g++[x]) B least k i=pkA g B least k i
 | 0,_=>rfl
 | i+1,h=>by
  unfold pkA
  rw[qrE (i:=i) (by omega),qvK (by omega)]
theorem qkC {l:qAE}(hl:Bit l){B least:Int}{k:Nat}(hB:0≤B)(hk:1≤k):∀ (m p:Nat) (out:List (qAE)) (r:List (qAE)×Nat),pkR l B least k m out p=some r→p≤l.length→(pkA out B least k out.length).1.length≤p →
  r.1.length=out.length+m∧(pkA r.1 B least k r.1.length).1.length≤r.2
 | 0,p,out,r,h,_,hA=>by
  simp only[pkR,qx2] at h
  subst h
  exact ⟨rfl,hA⟩
 | m+1,p,out,r,h,hp,hA=>by
  unfold pkR at h
  rw[qyz] at h
  obtain ⟨o,ho,h⟩:=h
  rw[qyz] at h
  obtain ⟨d,hd,h⟩:=h
  obtain ⟨o1,o2,o3⟩:=qtZ hB hp ho
  have hol:=qvL hl hB ho
  obtain ⟨d1,d2,d3,d4,d5⟩:=qiP hl hk hd
  have hn1:(out++[d.1]).length=out.length+1:=by simp
  have hmin:=qq5 (pkW (out++[d.1]) B least k out.length) (n:=min B.toNat out.length) (r:=o.1.toNat) (by omega)
  have hW:(pkW (out++[d.1]) B least k out.length o.1.toNat).length=(pkH B o.1.toNat).length+(enc (out.length:Int) d.1 (pkF out out.length o.1.toNat) o.1 least k).length:=by
   unfold pkW
   rw[qxQ,qrG (qyb _) (by omega),show ((o.1.toNat:Nat):Int)=o.1 from by omega]
   congr 3
   rw[qyo,List.getElem?_append_right (qyb _)]
   simp
  have hrec:=qkC hl hB hk m d.2 (out++[d.1]) r h d5 (by
   rw[hn1,pkA,qxQ,qrE (qyb _)]
   unfold pkN
   omega)
  rw[hn1] at hrec
  exact ⟨by omega,hrec.2⟩
theorem qhZ {F:Nat}{xs:List (qAE)}(hm:xs.length≤1000000)(hr:∀ r∈xs,r.length≤1000000∧r.length<F):∀ (k i:Nat),xs.length<k+i→i≤xs.length→vB F xs xs k (i:Int)=some true
 | 0,_,_,_=>by omega
 | k+1,i,h,hi=>by
  show qcq F xs xs (vB F xs xs k) (i:Int)=_
  unfold qcq
  by_cases hlt:i<xs.length
  ·have:=hr _ (qx9 hlt)
   rw[if_pos (by simp;omega),qs,qxR hlt]
   simp only[qxP]
   rw[qkP this.2 this.1]
   simp only[qxP]
   rw[if_neg (by simp),qw (by omega)]
   exact qhZ hm hr k (i+1) (by omega) (by omega)
  ·rw[if_neg (by simp;omega)]
   rfl
theorem qjv {F:Nat}{xs:List (qAE)}(hF:xs.length<F)(hm:xs.length≤1000000)(hr:∀ r∈xs,r.length≤1000000∧r.length<F):qcL F xs xs=some true:=by
 unfold qcL
 rw[if_neg (by simp)]
 exact qhZ hm hr F 0 (by omega) (by omega)
def PSm (g:List (qAE)):Prop:=g.length≤100∧∀ r∈g,r.length≤1200
theorem qhh {F:Nat}{g:List (qAE)}(hF:2000≤F)(h:PSm g):jL F g g=some true:=by
 unfold jL
 have:=h.1
 rw[qjv (by omega) (by omega) (fun r hr=>by have:=h.2 r hr;omega)]
 rfl
theorem qvP:PSm []:=⟨by simp,fun r hr=>by simp at hr⟩
theorem qw5 {g:List (qAE)}(h:Gr g):PSm g:=⟨h.1,fun r hr=>by have:=qko h hr;omega⟩
theorem qt4 {g:List (qAE)}{B least k:Int}(h:pkE g B least k=0):prd (g.length:Int) B least k ((pkA g B least k.toNat g.length).1.length:Int) (pk (pkA g B least k.toNat g.length).1)=(g,0):=by
 obtain ⟨h1,h2,h3⟩:=qe3 h
 have hg:=qaQ.1 h1
 have hgl:=hg.1
 obtain ⟨k1,k2,k',rfl,k3,k4⟩:=qam h2
 rw[qxU] at h3 ⊢
 have hE:pcE (g.length:Int) B least (k':Int) ((pkA g B least k' g.length).1.length:Int) (pk (pkA g B least k' g.length).1)=0:=by
  unfold pcE
  rw[if_neg (by omega),if_neg (by simp[h2]),qnq h3]
 have hr:=qjZ hg h2 h3 [] g.length 0 (by omega)
 have hr':pkR (pkA g B least k' g.length).1 B least k' g.length [] 0=some (g,(pkA g B least k' g.length).1.length):=by
  rw[qyh] at hr
  exact hr
 unfold prd
 rw[if_neg (by simp[hE])]
 simp only[qxU]
 rw[qcC (qfh _),hr']
 simp only
 rw[if_pos ⟨trivial,h,trivial⟩]
theorem qqu {N B least k m:Int}{b:qAE}(hb:U8s b)(h:(prd N B least k m b).2=0):∃ g,prd N B least k m b=(g,0)∧pkE g B least k=0∧N=(g.length:Int)∧m=((pkA g B least k.toNat g.length).1.length:Int)∧b=pk (pkA g B least k.toNat g.length).1:=by
 have h0:=h
 unfold prd at h
 by_cases hE:pcE N B least k m b=0
 ·rw[if_neg (by simp[hE])] at h
  obtain ⟨n,l,rfl,hn,hh,hl,hlm,rfl,rfl⟩:=qqr hb hE
  obtain ⟨k1,k2,k',rfl,k3,k4⟩:=qam hh
  simp only[qxU,qcC hl] at h
  cases hr:pkR l B least k' n [] 0 with
  | none=>rw[hr] at h;simp at h
  | some r =>
   rw[hr] at h
   simp only at h
   split at h
   ·rename_i hc
    obtain ⟨c1,c2,c3⟩:=hc
    obtain ⟨g1,g2,g3⟩:=qe3 c2
    rw[qxU] at g3
    have hg:=qaQ.1 g1
    obtain ⟨b1,b2⟩:=qkC hl k1.1 k3 n 0 [] r hr (qyn _) (by simp[pkA])
    rw[qyc,qyI] at b1
    have hq:l=(pkA r.1 B least k' r.1.length).1++l.drop (pkA r.1 B least k' r.1.length).1.length:=by
     have e1:l.take (pkA r.1 B least k' r.1.length).1.length=(pkA r.1 B least k' r.1.length).1:=by
      have:=qvl (b:=pk l) (n:=(pkA r.1 B least k' r.1.length).1.length) (m:=l.length) (by omega)
      rw[qcC hl,← c3,qcC (qfh _)] at this
      exact this
     conv=>lhs;rw[← qyA (pkA r.1 B least k' r.1.length).1.length l,e1]
    have hr2:=qjZ hg hh g3 (l.drop (pkA r.1 B least k' r.1.length).1.length) r.1.length 0 (by omega)
    rw[← hq] at hr2
    have hr3:pkR l B least k' n [] 0=some (r.1,(pkA r.1 B least k' r.1.length).1.length):=by
     rw[← b1];exact hr2
    rw[hr] at hr3
    have e2:r.2=(pkA r.1 B least k' r.1.length).1.length:=by
     have:=qzp hr3
     rw[this]
    refine ⟨r.1,?_,c2,by omega,by rw[qxU];omega,by rw[qxU];exact c3.symm⟩
    unfold prd
    rw[if_neg (by simp[hE])]
    simp only[qxU,qcC hl,hr]
    rw[if_pos ⟨c1,c2,c3⟩]
   ·simp at h
 ·rw[if_pos hE] at h
  exact absurd h hE
def pkSome:List (qAE):=[[1,2,3,5],[1,2,3,5],[0,1,2,3,5],[],[4],[1,2,3]]
theorem qnX {F:Nat}{b l k:Int}:qca F b l k=some (hcE b l k):=by
 unfold qca qaU qcY qaU qcX zC hcE
 simp only[qxP]
 by_cases h1:0≤b∧b≤7
 ·have e1:(!(decide (0≤b) && decide (b≤7)))=false:=by simp;omega
  rw[e1,if_neg (by simp)]
  by_cases h3:1≤k∧k≤16
  ·have e3:(!(decide (1≤k) && decide (k≤16)))=false:=by simp;omega
   by_cases h2:l=0
   ·rw[if_neg (by simp[h2]),if_neg (by simp),e3,if_neg (by simp),if_neg (show ¬ hcB b l k from by unfold hcB;omega)]
   ·rw[if_pos (by simpa using h2)]
    by_cases h4:2≤l∧l≤300
    ·have e4:(!(decide (2≤l) && decide (l≤300)))=false:=by simp;omega
     rw[e4,if_neg (by simp),e3,if_neg (by simp),if_neg (show ¬ hcB b l k from by unfold hcB;omega)]
    ·have e4:(!(decide (2≤l) && decide (l≤300)))=true:=by simp;omega
     rw[e4,if_pos rfl,if_pos (by trivial),if_pos (show hcB b l k from by unfold hcB;omega)]
  ·have e3:(!(decide (1≤k) && decide (k≤16)))=true:=by simp;omega
   by_cases h2:l=0
   ·rw[if_neg (by simp[h2]),if_neg (by simp),e3,if_pos (by trivial),if_pos (show hcB b l k from by unfold hcB;omega)]
   ·rw[if_pos (by simpa using h2)]
    by_cases h4:2≤l∧l≤300
    ·have e4:(!(decide (2≤l) && decide (l≤300)))=false:=by simp;omega
     rw[e4,if_neg (by simp),e3,if_pos (by trivial),if_pos (show hcB b l k from by unfold hcB;omega)]
    ·have e4:(!(decide (2≤l) && decide (l≤300)))=true:=by simp;omega
     rw[e4,if_pos rfl,if_pos (by trivial),if_pos (show hcB b l k from by unfold hcB;omega)]
 ·have e1:(!(decide (0≤b) && decide (b≤7)))=true:=by simp;omega
  rw[e1,if_pos rfl,if_pos (by trivial),if_pos (by trivial),if_pos (show hcB b l k from by unfold hcB;omega)]
theorem qut {F:Nat}(hF:20000≤F){node back least k:Int}{fr:qAE}:qfP F node fr back least k=some (scE node fr back):=by
 unfold qfP zC scE
 simp only[qxP]
 by_cases h1:0≤node∧node≤1048576
 ·rw[if_neg (by simp;omega),if_pos (show Nd node from h1)]
  by_cases h2:0<back
  ·rw[if_pos (by simpa using h2),if_pos h2,qhH hF];rfl
  ·rw[if_neg (by simpa using h2),if_neg h2]
 ·rw[if_pos (by simp;omega),if_neg (show ¬ Nd node from h1)]
theorem rgl {F:Nat}(hF:20000≤F){n:Int}(h0:0≤n)(hn:n≤1099511627776):ko F (iconv .u64 n)=some (ga n.toNat):=by
 obtain ⟨m,rfl⟩:=qx0 h0
 rw[kn (by omega),qgM hF (by omega),qxU]
theorem qpr {F k:Nat}(hF:20000≤F)(h1:1≤k)(h2:k≤16){S rest:qAE}{node q:Int}(hn:Nd node)(hm:rest.length≤300)(hs:Ris q rest)(hS:S.length≤1000000) :
  qab F node (k:Int) S rest=some (S++zes k (gp false node rest)):=by
 unfold qab
 rw[ql3 hF hm hn hs]
 simp only[qxP]
 have hl:=qdX false node rest
 have h40:L40 (gp false node rest):=fun x hx=>by
  have:=ql6 hn hs (fun h=>by simp at h) x hx
  omega
 have hz:=qjF (F:=F) hF h1 h2 h40 (by omega) F 0 [] (by omega) (qyn _) (by simp;omega)
 have hz':yz F (gp false node rest) (k:Int) F ([],0)=_:=hz
 unfold qgd
 rw[hz',qx8,qx6]
 simp only[qxP]
 have:=qoj h2 h40
 rw[qD (by omega)]
 rfl
theorem qrY {F k:Nat}(hF:20000≤F)(hk1:1≤k)(hk2:k≤16){node q0:Int}{R:List (Int×Int)}{rest:qAE}{least:Int}(hn:Nd node)(hm:R.length≤300)(hR:∀ r∈R,RunOk r∧least≤r.2)(hle:0≤least)(hrm:rest.length≤300)(hrs:Ris q0 rest) :
  ∀ (j i:Nat) (S:qAE),R.length<j+i→i≤R.length→S.length+200*(R.length-i)≤900000→(∃ q,Sep q (R.drop i))→(∀ h:0<i,∃ q,Sep q (R.drop (i-1))) →
  ku F node least (k:Int) (R,rest) j (S,(i:Int))=some (S++(encRs least (decide (0<i)) (if h:0<i∧i≤R.length then (R[i-1]'(by omega)).1+(R[i-1]'(by omega)).2-1 else node) (R.drop i)++zes k (gp false node rest)))
 | 0,_,_,_,_,_,_,_=>by omega
 | j+1,i,S,h,hi,hS,hs,hs1=>by
  show qcr F node least (k:Int) (R,rest) (ku F node least (k:Int) (R,rest) j) S (i:Int)=_
  unfold qcr
  by_cases hlt:i<R.length
  ·obtain ⟨hro,hrl⟩:=hR R[i] (qx9 hlt)
   unfold RunOk at hro
   unfold Nd at hn
   rw[if_pos (by simp;omega),qxT hlt]
   have hj:∀ (g:Nat),g≤1099511627776→qac F (ku F node least (k:Int) (R,rest) j) least (R,rest) (i:Int) (S++ga g)=some (S++(ga g++(ga (R[i].2-least).toNat++encRs least true (R[i].1+R[i].2-1) (R.drop (i+1))))++zes k (gp false node rest)):=fun g hg=>by
    unfold qac
    have hg1:=qd4 hg
    have hg2:=qd4 (n:=(R[i].2-least).toNat) (by omega)
    rw[qs,qxR hlt]
    simp only[qxP]
    rw[qG (by omega) (by omega),rgl hF (by omega) (by omega)]
    simp only[qxP]
    rw[qD (by rw[qxQ];omega)]
    simp only[qxP]
    rw[qw (by omega)]
    obtain ⟨q,hsp⟩:=hs
    rw[qxT hlt] at hsp
    rw[qrY hF hk1 hk2 (by unfold Nd;omega) hm hR hle hrm hrs j (i+1) _ (by omega) (by omega) (by simp only[qxQ];omega) ⟨_,hsp.2.2⟩ (fun _=>by
     rw[qym,qxT hlt];exact ⟨q,hsp⟩)]
    have hc:0<i+1∧i+1≤R.length:=⟨by omega,by omega⟩
    rw[dif_pos hc]
    simp only[qym,Nat.zero_lt_succ,decide_true]
    simp only[qxS]
   by_cases h0:i=0
   ·subst h0
    have hf:=qfD (x:=R[0].1-node) (by omega)
    rw[if_pos (by simp)]
    have e0:idx R 0=some R[0]:=by
     show idx R ((0:Nat):Int)=_
     rw[qs,qxR hlt]
    rw[e0]
    simp only[qxP]
    rw[qG (by omega) (by omega),ql2 F (by omega) (by omega)]
    simp only[qxP]
    obtain ⟨g,hg⟩:=qx0 hf.1
    rw[hg,qgM hF (by omega)]
    simp only[qxP]
    have hg1:=qd4 (n:=g) (by omega)
    rw[qD (by omega)]
    simp only[qxP]
    rw[hj g (by omega)]
    simp only[encRs,qAw,decide_false,qxZ,if_false,false_and,dite_false]
    rw[hg,qxU]
    simp only[qxS]
   ·have hi0:0<i:=by omega
    obtain ⟨q1,hq1⟩:=hs1 hi0
    have hlt1:i-1<R.length:=by omega
    rw[qxT hlt1,show i-1+1=i from by omega,qxT hlt] at hq1
    obtain ⟨a1,a2,a3⟩:=hq1
    obtain ⟨b1,b2,b3⟩:=a3
    obtain ⟨hro1,hrl1⟩:=hR R[i-1] (qx9 hlt1)
    unfold RunOk at hro1
    rw[if_neg (by simp;omega),qs,qxR hlt,jZ (by omega) (by omega),qs,qxR hlt1]
    simp only[qxP]
    rw[qA (by omega) (by omega),qG (a:=R[i-1].1+R[i-1].2) (by omega) (by omega),qG (a:=R[i].1) (by omega) (by omega),qG (by omega) (by omega),rgl hF (by omega) (by omega)]
    simp only[qxP]
    have hg1:=qd4 (n:=(R[i].1-(R[i-1].1+R[i-1].2-1)-2).toNat) (by omega)
    rw[qD (by omega)]
    simp only[qxP]
    rw[hj _ (by omega)]
    rw[dif_pos ⟨hi0,by omega⟩]
    simp only[encRs,hi0,decide_true,if_true]
    simp only[qxS]
  ·rw[if_neg (by simp;omega),qxW (by omega)]
   rw[qpr hF hk1 hk2 hn hrm hrs (by omega)]
   simp[encRs]
theorem qpt {F k:Nat}(hF:2000000≤F)(h1:1≤k)(h2:k≤16){S rest:qAE}{node least:Int}(hn:Nd node)(hg:gkc rest=0)(hS:S.length≤500000):ve F node least (k:Int) S rest=some (S++encL node rest least k):=by
 obtain ⟨hm,hs⟩:=zn.1 hg
 unfold ve encL encO encS
 by_cases h0:rest=[]
 ·subst h0
  rw[if_pos (by simp),if_pos rfl,qyh]
 ·have hlen:rest.length≠0:=by simpa using h0
  rw[if_neg (by simp;exact h0),if_neg h0]
  by_cases hl:0<least
  ·rw[if_pos (by simpa using hl),if_pos hl,if_pos hl,if_pos hl,qsF hF hm hs]
   simp only[qxP]
   obtain ⟨s1,s2⟩:=qn2 (least:=least) hm hs
   obtain ⟨r1,r2⟩:=qms hm hs
   rw[rgl (by omega) (by omega) (by omega),qxU]
   simp only[qxP]
   have hg1:=qd4 (n:=(spO least (rs rest)).length) (by omega)
   rw[qD (by omega)]
   simp only[qxP]
   have hsep:Sep (-1) (spO least (rs rest)):=qds _ r1
   have:=qrY (F:=F) (by omega) h1 h2 (R:=spO least (rs rest)) (rest:=flat (spS least (rs rest))) (least:=least) (q0:=-1) hn (by omega) (fun r hr=>⟨r2 r (qyR.1 hr).1,by simpa using (qyR.1 hr).2⟩) (by omega) s2 (qj1 hs _) F 0 (S++ga (spO least (rs rest)).length) (by omega) (qyn _) (by rw[qxQ];omega) ⟨_,hsep⟩ (fun h=>absurd h (by omega))
   have this':ku F node least (k:Int) (spO least (rs rest),flat (spS least (rs rest))) F (S++ga (spO least (rs rest)).length,0)=_:=this
   rw[this',qx8]
   simp only[qAw,decide_false,false_and,dite_false,encR,qxS]
  ·rw[if_neg (by simpa using hl),if_neg hl,if_neg hl,qx6]
   exact qpr (by omega) h1 h2 hn hm hs (by omega)
theorem quc {F k:Nat}(hF:2000000≤F){bs rest:qAE}{node least:Int}(hm:bs.length≤301)(hb:∀ n∈bs,n≤1000000):∀ (j i:Nat) (S:qAE),bs.length<j+i→i≤bs.length→S.length+100*(bs.length-i)≤400000→okB (decide (i=0)) (bs.drop i)=true →
  kv F node least (k:Int) (bs,rest) j (S,(i:Int))=ve F node least (k:Int) (S++encBs (decide (0<i)) (bs.drop i)) rest
 | 0,_,_,_,_,_,_=>by omega
 | j+1,i,S,h,hi,hS,hok=>by
  show qcs F node least (k:Int) (bs,rest) (kv F node least (k:Int) (bs,rest) j) S (i:Int)=_
  unfold qcs
  by_cases hlt:i<bs.length
  ·have hbi:=hb _ (qx9 hlt)
   rw[if_pos (by simp;omega),qs,qxR hlt,qxT hlt]
   simp only[qxP]
   rw[qxT hlt,qgx] at hok
   simp only[qys] at hok
   have h0:0≤bs[i]:=by simpa using hok.1.1
   have h1:0<i→1≤bs[i]:=fun hi0=>by
    have:=hok.1.2
    have e:decide (i=0)=false:=by simp;omega
    rw[e] at this
    simp at this
    omega
   have hstep:∀ x:Int,0≤x→x≤1000000→qad F (kv F node least (k:Int) (bs,rest) j) S (i:Int) x=ve F node least (k:Int) (S++(ga x.toNat++encBs true (bs.drop (i+1)))) rest:=fun x hx0 hx1=>by
    unfold qad
    rw[rgl (by omega) hx0 (by omega)]
    simp only[qxP]
    have hg:=qd4 (n:=x.toNat) (by omega)
    rw[qD (by omega)]
    simp only[qxP]
    rw[qw (by omega),quc hF hm hb j (i+1) _ (by omega) (by omega) (by rw[qxQ];omega) (by
     have:=hok.2
     have e:decide (i+1=0)=false:=by simp
     rw[e];exact this)]
    simp only[Nat.zero_lt_succ,decide_true,qxS]
   by_cases hi0:0<i
   ·rw[if_pos (by simp;omega),qG (by omega) (by omega),hstep _ (by have:=h1 hi0;omega) (by omega)]
    simp only[encBs,hi0,decide_true,if_true]
   ·rw[if_neg (by simp;omega),hstep _ h0 hbi]
    simp only[encBs,hi0,decide_false,qxZ,if_false,Int.sub_zero]
  ·rw[if_neg (by simp;omega),qxW (by omega)]
   simp[encBs]
theorem qjg {F k:Nat}(hF:2000000≤F)(h1:1≤k)(h2:k≤16){x fr:qAE}{node back least:Int}(hn:Nd node)(hg:gkc x=0)(hfr:0<back→gkc fr=0) :
  qdF F node x fr back least (k:Int)=some (enc node x fr back least k):=by
 obtain ⟨hm,hs⟩:=zn.1 hg
 unfold qdF enc rstO
 rw[rgl (by omega) (by omega) (by omega),qxU]
 simp only[qxP]
 have hg1:=qd4 (n:=x.length) (by omega)
 by_cases h0:x=[]
 ·subst h0
  rw[if_pos (by simp),if_pos rfl,qyh]
 ·rw[if_neg (by simpa using h0),if_neg h0]
  by_cases hb:0<back
  ·have hfg:=hfr hb
   have hfl:=(zn.1 hfg).1
   rw[if_pos (by simpa using hb),if_pos hb,if_pos hb,qqv (by omega) hfl hm]
   simp only[qxP]
   have htl:=qhR fr x
   have hok:okB true (tbs fr x)=true:=qhe _ _ _ _ (by omega) (Or.inl rfl)
   have hsum:bsum (tbs fr x)≤0+(fr.map (hasB x)).length:=qf0 _ _ _ (by omega)
   rw[qyG] at hsum
   have hbd:∀ n∈tbs fr x,n≤1000000:=fun n hnm=>by
    have:=qhD hok n hnm
    omega
   rw[rgl (by omega) (by omega) (by omega),qxU]
   simp only[qxP]
   have hg2:=qd4 (n:=(tbs fr x).length) (by omega)
   rw[qD (by omega)]
   simp only[qxP]
   have hbl:=quc (F:=F) (k:=k) (rest:=rst fr x) (node:=node) (least:=least) hF (bs:=tbs fr x) (by omega) hbd F 0 (ga x.length++ga (tbs fr x).length) (by omega) (qyn _) (by rw[qxQ];omega) (by simpa using hok)
   have hbl':kv F node least (k:Int) (tbs fr x,rst fr x) F (ga x.length++ga (tbs fr x).length,0)=_:=hbl
   have hlen:(encBs false (tbs fr x)).length≤81*(tbs fr x).length:=by
    have key:∀ (bs:qAE) (b:Bool),(∀ n∈bs,n≤1000000)→(encBs b bs).length≤81*bs.length:=by
     intro bs
     induction bs with
     | nil=>intro b _;simp[encBs]
     | cons n bs ih =>
      intro b hn
      have h3:=ih true (fun y hy=>hn y (by simp[hy]))
      have h4:=hn n (by simp)
      have h5:=qd4 (n:=(n-if b then 1 else 0).toNat) (by split <;> omega)
      simp only[encBs,qxQ,qxY]
      omega
    exact key _ _ hbd
   rw[hbl',qx8,show decide (0<0)=false from rfl,qpt hF h1 h2 hn (qiS hg) (by simp only[qxQ];omega)]
   simp only[encB,qxS]
  ·rw[if_neg (by simpa using hb),if_neg hb,if_neg hb,qx6]
   exact qpt hF h1 h2 hn hg (by omega)
theorem qob {x:Int}(h0:0≤x)(h1:x≤1000000):iadd .u64 x 1=x+1:=by
 obtain ⟨n,rfl⟩:=qx0 h0
 rw[qfk (by omega)];omega
theorem qmx {F:Nat}{rec158:(qAE×Int)→Option (qAE)}{l out:qAE}{i:Nat}{x:Int}(hx:l[i]?=some x)(ho:out.length≤1000000):∀ (j a:Nat),a<j→a≤out.length→(∀ z∈out.drop a,x≤z)→out.Pairwise (·≤·) →
  ∃ p:Nat,p≤out.length∧vd F rec158 l out (i:Int) j (a:Int)=qc3 F rec158 l out (i:Int) (p:Int)∧(∀ z∈out.drop p,x≤z)∧(∀ z∈out.take p,z≤x)
 | 0,_,h,_,_,_=>by omega
 | j+1,a,h,ha,hd,hp=>by
  show ∃ p:Nat,p≤out.length∧qc2 F rec158 l out (i:Int) (vd F rec158 l out (i:Int) j) (a:Int)=_∧_
  unfold qc2
  by_cases h0:0<a
  ·have hlt:a-1<out.length:=by omega
   rw[if_pos (by simpa using h0),jZ (by omega) (by omega),qs,qxR hlt,qs,hx]
   simp only[qxP]
   unfold qc4
   by_cases h1:x<out[a-1]
   ·rw[if_pos (by simpa using h1),jZ (by omega) (by omega)]
    refine qmx hx ho j (a-1) (by omega) (by omega) (fun z hz=>?_) hp
    rw[qxT hlt,show a-1+1=a from by omega] at hz
    rcases qx1.1 hz with rfl | hz
    ·omega
    ·exact hd z hz
   ·rw[if_neg (by simpa using h1)]
    refine ⟨a,ha,rfl,hd,fun z hz=>?_⟩
    obtain ⟨q,hq,rfl⟩:=List.mem_iff_getElem.1 hz
    rw[qye] at hq
    rw[List.getElem_take]
    by_cases hqa:q=a-1
    ·subst hqa;omega
    ·have:=(List.pairwise_iff_getElem.1 hp) q (a-1) (by omega) hlt (by omega)
     omega
  ·rw[if_neg (by simpa using h0)]
   refine ⟨a,ha,rfl,hd,fun z hz=>?_⟩
   have:a=0:=by omega
   subst this
   simp at hz
theorem qw6 {out:qAE}{x:Int}{p:Nat}(hp:out.Pairwise (·≤·))(h1:∀ z∈out.drop p,x≤z)(h2:∀ z∈out.take p,z≤x):(out.take p++[x]++out.drop p).Pairwise (·≤·):=by
 rw[qxS,qAa]
 refine ⟨hp.sublist (List.take_sublist _ _),?_,?_⟩
 ·rw[qzN,qyW]
  exact ⟨h1,hp.sublist (List.drop_sublist _ _)⟩
 ·intro a ha b hb
  rcases qxV.1 hb with hb | hb
  ·simp at hb;subst hb;exact h2 a ha
  ·have hab:=hp
   rw[← qyA p out,qAa] at hab
   exact hab.2.2 a ha b hb
theorem qpB {F:Nat}{l:qAE}(hF:l.length<F)(hm:l.length≤100000):∀ (k i:Nat) (out:qAE),l.length<k+i→i≤l.length→out.Perm (l.take i)→out.Pairwise (·≤·)→qY F l k (out,(i:Int))=some (srt l)
 | 0,_,_,_,_,_,_=>by omega
 | k+1,i,out,h,hi,hpm,hp=>by
  show qc1 F l (qY F l k) out (i:Int)=_
  unfold qc1
  have hlen:=hpm.length_eq
  rw[qye] at hlen
  by_cases hlt:i<l.length
  ·rw[if_pos (by simp;omega)]
   obtain ⟨p,hpl,hM,h1,h2⟩:=qmx (F:=F) (rec158:=qY F l k) (qxR hlt) (by omega) F out.length (by omega) (qyb _) (by simp) hp
   rw[hM]
   unfold qc3
   have e0:sub out 0 (p:Int)=some (out.take p):=by
    have:=qfJ (l:=out) (i:=0) (j:=p) (by omega) hpl
    simpa using this
   rw[e0,qs,qxR hlt,qfJ hpl (qyb _)]
   simp only[qxP]
   rw[qD (by simp;omega)]
   simp only[qxP]
   rw[qD (by simp;omega)]
   simp only[qxP]
   rw[qD (by simp;omega)]
   simp only[qxP]
   unfold qaV
   rw[qw (by omega),qx6,List.take_length]
   refine qpB hF hm k (i+1) _ (by omega) (by omega) ?_ (qw6 hp h1 h2)
   rw[qzu,qxR hlt]
   have e1:(out.take p++[l[i]]++out.drop p).Perm (l[i]::out):=by
    have:=List.perm_middle (a:=l[i]) (l₁:=out.take p) (l₂:=out.drop p)
    rw[qyA] at this
    simpa using this
   refine e1.trans ((List.Perm.cons _ hpm).trans ?_)
   have:=List.perm_append_comm (l₁:=[l[i]]) (l₂:=l.take i)
   simpa using this
  ·rw[if_neg (by simp;omega)]
   unfold qfr
   rw[List.take_of_length_le (by omega)] at hpm
   rw[qhn hpm.symm hp]
theorem qsK {F:Nat}{l:qAE}(hF:l.length<F)(hm:l.length≤100000):qgE F l=some (srt l):=by
 unfold qgE
 exact qpB hF hm F 0 [] (by omega) (qyn _) (by simp) (by simp)
def gGap (l:qAE)(k:Nat)(node many:Int)(out:qAE)(p:Nat):qAE×Bool :=
 match gfr l k (many-out.length).toNat false node p with
 | .inl _=>([],false)
 | .inr g=>(srt (out++g.1),true)
def gFst (b:Bool)(e node g:Int):Int:=if b then e+g+2 else match st false node g with | none=>-1 | some n=>n
def gRn (l:qAE)(k:Nat)(node least many:Int):Nat→Bool→Int→qAE→Nat→qAE×Bool
 | 0,_,_,out,p=>gGap l k node many out p
 | j+1,b,e,out,p=>match rgam l p 4194304 with
  | none=>([],false)
  | some g=>match rgam l g.2 1000 with
   | none=>([],false)
   | some x=>if gFst b e node g.1<0∨1048576<gFst b e node g.1 then ([],false) else
    if many<((out++rng (gFst b e node g.1) (x.1+least).toNat).length:Int) then ([],false)
    else gRn l k node least many j true (gFst b e node g.1+x.1+least-1) (out++rng (gFst b e node g.1) (x.1+least).toNat) x.2
def gG2 (l:qAE)(k:Nat)(node least many:Int)(out:qAE)(p:Nat):qAE×Bool :=
 if (out.length:Int)=many then (out,true) else if 0<least then match rgam l p 300 with
  | none=>([],false)
  | some n=>gRn l k node least many n.1.toNat false node out n.2
 else gGap l k node many out p
def gG (l:qAE)(p:Nat)(node:Int)(fr:qAE)(back least:Int)(k:Nat):qAE×Bool :=
 match rgam l p 300 with
 | none=>([],false)
 | some m=>if m.1=0 then ([],true) else if 0<back then match rgam l m.2 (fr.length+1) with
   | none=>([],false)
   | some n=>match rbl l 1000 n.1.toNat false n.2 with
    | none=>([],false)
    | some b=>if (cpy fr b.1).2=0∧((cpy fr b.1).1.length:Int)≤m.1 then gG2 l k node least m.1 (cpy fr b.1).1 b.2 else ([],false)
  else gG2 l k node least m.1 [] m.2
theorem qiG {F:Nat}(hF:20000≤F){l:qAE}(hl:Bit l)(hm:l.length≤8192){p:Nat}(hp:p≤l.length){most:Int}{K:Int×Int×Int→Option (qAE×Bool)}{G:Int×Nat→qAE×Bool}
  (hN:∀ g:Int×Int×Int,(g.2.2≠0∨most<g.1)→K g=some ([],false)) (hS:∀ (x:Int×Nat),rgam l p most=some x→0≤x.1→x.1≤most→x.1≤1099511627776→x.2≤l.length→K (x.1,(x.2:Int),0)=some (G x)) :
  (kG F l (p:Int)).bind K=some (match rgam l p most with | none=>([],false) | some x=>G x):=by
 rw[qgN hF hl hm hp]
 simp only[qxP]
 cases hr:rgam l p most with
 | none =>
  refine hN _ ?_
  unfold rgam at hr
  by_cases h1:(fg l p).2.2=0
  ·right
   by_cases h2:(fg l p).1≤most
   ·rw[if_pos ⟨h1,h2⟩] at hr;simp at hr
   ·omega
  ·left;exact h1
 | some x =>
  have hok:=vY hr
  have:=hS x hr hok.1 hok.2.1 hok.2.2.1 hok.2.2.2
  rw[← this]
  congr 1
  unfold rgam at hr
  split at hr
  ·rename_i hc
   simp only[qx2] at hr
   rw[← hr]
   have h3:0≤(fg l p).2.1:=by
    rcases ql0 (l:=l) (a:=p) with h1 | ⟨n,q,h1,h2,h3⟩
    ·exact absurd hc.1 h1
    ·rw[h1];simp
   simp only
   rw[qAe h3,← hc.1]
  ·simp at hr
theorem qrk {F k:Nat}(hF:2000000≤F)(h1:1≤k)(h2:k≤16){l:qAE}(hl:Bit l)(hm:l.length≤8192){node many:Int}(hn:Nd node){out:qAE}(ho:(out.length:Int)≤many)(hmm:many≤300){p:Nat}(hp:p≤l.length){x:Int×Int×Int}(hx:x.1=many) :
  jt F l node (k:Int) x (p:Int) out=some (gGap l k node many out p):=by
 unfold jt qgC gGap
 rw[hx]
 have e1:iconv .i64 many=many:=qL (by omega) (by omega)
 rw[e1,qG (by omega) (by omega)]
 obtain ⟨n,hnn⟩:=qx0 (a:=many-(out.length:Int)) (by omega)
 rw[hnn]
 have:=qkk (F:=F) (k:=k) (many:=n) (l:=l) (by omega) hl hm h1 h2 (by omega) F p node [] (by simp;omega) (by simp) hp hn
 rw[this]
 simp only[qxP,qyc,qy9,qAw,decide_false,qxU]
 cases hg:gfr l k n false node p with
 | inl e =>
  rw[show gfI ([]:qAE) (.inl e)=([],0,e) from rfl,if_pos (by simpa using qqe hg)]
 | inr r =>
  have hrl:=qny hg
  rw[show gfI ([]:qAE) (.inr r)=(r.1,(r.2:Int),0) from rfl,if_neg (by simp),qD (by simp only;omega)]
  simp only[qxP]
  rw[qsK (by rw[qxQ];omega) (by rw[qxQ];omega)]
  rfl
theorem qwL {F:Nat}{rec64:(Int×qAE×Int×Int)→Option (qAE×Bool)}{least i f:Int}{x x2:Int×Int×Int}{out:qAE}(hx0:0≤x2.1)(hx:x2.1≤1000)(hle:0≤least)(hle2:least≤300)(hf:0≤f)(hf2:f≤1048576)(ho:out.length≤100000):∀ (j t:Nat),(x2.1+least).toNat<j+t→t≤(x2.1+least).toNat →
  kZ F rec64 least x i x2 f j (out++rng f t,(t:Int))=jv F rec64 least x i x2 f (out++rng f (x2.1+least).toNat)
 | 0,_,_,_=>by omega
 | j+1,t,h,ht=>by
  show qbs F rec64 least x i x2 f (kZ F rec64 least x i x2 f j) (out++rng f t) (t:Int)=_
  unfold qbs
  have e1:iconv .i64 x2.1=x2.1:=qL (by omega) (by omega)
  rw[e1,qA (a:=x2.1) (by omega) (by omega)]
  by_cases hlt:(t:Int)<x2.1+least
  ·rw[if_pos (by simpa using hlt),qA (by omega) (by omega),qD (by rw[qxQ,va];simp;omega)]
   simp only[qxP]
   rw[qw (by omega),qxS,← qhk]
   exact qwL hx0 hx hle hle2 hf hf2 ho j (t+1) (by omega) (by omega)
  ·rw[if_neg (by simpa using hlt),show t=(x2.1+least).toNat from by omega]
theorem qvu {F:Nat}{e node g:Int}(hn:Nd node)(hg:U64 g):qbP F g node true=some (gFst false e node g):=qij (b:=false) hn hg
theorem qtw {F k:Nat}(hF:2000000≤F)(h1:1≤k)(h2:k≤16){l:qAE}(hl:Bit l)(hm:l.length≤8192){node many least:Int}(hn:Nd node)(hmm:many≤300)(hle:0<least)(hle2:least≤300){x x9:Int×Int×Int}(hx:x.1=many){n:Nat}(hx9:x9.1=(n:Int))(hn3:n≤300) :
  ∀ (j i p:Nat) (out:qAE) (e:Int),n<j+i→i≤n→(out.length:Int)≤many→p≤l.length→(0<i→0≤e∧e≤2000000)→(i=0→e=node) →
  qQ F l node least (k:Int) x x9 j ((p:Int),out,e,(i:Int))=some (gRn l k node least many (n-i) (decide (0<i)) e out p)
 | 0,_,_,_,_,_,_,_,_,_,_=>by omega
 | j+1,i,p,out,e,h,hi,ho,hp,he,he0=>by
  show qbr F l node least (k:Int) x x9 (qQ F l node least (k:Int) x x9 j) (p:Int) out e (i:Int)=_
  unfold qbr
  have heb:0≤e∧e≤2000000:=by
   by_cases h0:0<i
   ·exact he h0
   ·have:=he0 (by omega)
    have:=hn.1;have:=hn.2
    omega
  rw[hx9]
  by_cases hlt:i<n
  ·rw[if_pos (by simpa using hlt),show n-i=(n-(i+1))+1 from by omega]
   simp only[gRn]
   refine qiG (most:=4194304) (by omega) hl hm hp (fun g hg=>?_) (fun g hg g0 g1 g2 g3=>?_)
   ·rw[if_pos (by simpa using hg)]
   ·simp only
    rw[if_neg (by simp;omega)]
    refine qiG (most:=1000) (by omega) hl hm g3 (fun y hy=>?_) (fun y hy y0 y1 y2 y3=>?_)
    ·rw[if_pos (by simpa using hy)]
    ·simp only
     rw[if_neg (by simp;omega)]
     have eg:iconv .i64 g.1=g.1:=qL (by omega) (by omega)
     unfold lett
     rw[eg,qA (a:=e) (by omega) (by omega),qA (a:=e+g.1) (by omega) (by omega)]
     have hstep:∀ f:Int,f=gFst (decide (0<i)) e node g.1→ju F (qQ F l node least (k:Int) x x9 j) least x out (i:Int) (y.1,(y.2:Int),0) f=some (if gFst (decide (0<i)) e node g.1<0∨1048576<gFst (decide (0<i)) e node g.1 then ([],false) else
       if many<((out++rng (gFst (decide (0<i)) e node g.1) (y.1+least).toNat).length:Int) then ([],false)
       else gRn l k node least many (n-(i+1)) true (gFst (decide (0<i)) e node g.1+y.1+least-1) (out++rng (gFst (decide (0<i)) e node g.1) (y.1+least).toNat) y.2):=by
      intro f hf
      rw[← hf]
      unfold ju
      by_cases hc:f<0∨1048576<f
      ·rw[if_pos (by simpa using hc),if_pos hc]
      ·rw[if_neg (by simpa using hc),if_neg hc]
       have hr:=qwL (F:=F) (rec64:=qQ F l node least (k:Int) x x9 j) (least:=least) (i:=(i:Int)) (f:=f) (x:=x) (x2:=(y.1,(y.2:Int),0)) (out:=out) y0 y1 (by omega) hle2 (by omega) (by omega) (by omega) F 0 (by simp only;omega) (qyn _)
       have hr':kZ F (qQ F l node least (k:Int) x x9 j) least x (i:Int) (y.1,(y.2:Int),0) f F (out,0)=jv F (qQ F l node least (k:Int) x x9 j) least x (i:Int) (y.1,(y.2:Int),0) f (out++rng f (y.1+least).toNat):=by
        have e0:out++rng f 0=out:=by simp[rng]
        rw[e0] at hr
        exact hr
       rw[hr']
       unfold jv lett
       have em:iconv .i64 many=many:=qL (by omega) (by omega)
       have ey:iconv .i64 y.1=y.1:=qL (by omega) (by omega)
       simp only
       rw[hx,em,ey]
       by_cases hc2:many<((out++rng f (y.1+least).toNat).length:Int)
       ·rw[if_pos (by simpa using hc2),if_pos hc2]
       ·rw[if_neg (by simpa using hc2),if_neg hc2]
        unfold qdH
        rw[qob (by omega) (by omega),qA (a:=f) (by omega) (by omega),qA (a:=f+y.1) (by omega) (by omega),qG (by omega) (by omega),show ((i:Int)+1)=((i+1:Nat):Int) from by omega]
        rw[qtw hF h1 h2 hl hm hn hmm hle hle2 hx hx9 hn3 j (i+1) y.2 _ _ (by omega) (by omega) (by omega) y3 (fun _=>by omega) (fun h=>by omega)]
        rw[decide_eq_true (show 0<i+1 from by omega)]
     refine Eq.trans ?_ (hstep _ rfl)
     show (if ((i:Int) == 0)=true then _ else _)=_
     by_cases h0:i=0
     ·rw[if_pos (by simp[h0]),qvu (e:=e) hn ⟨g0,by omega⟩,show decide (0<i)=false from by simp[h0]]
      rfl
     ·rw[if_neg (by simp;omega),decide_eq_true (show 0<i from by omega)]
      rfl
  ·rw[if_neg (by simpa using hlt),show n-i=0 from by omega]
   exact qrk hF h1 h2 hl hm hn ho hmm hp hx
theorem qtv {F k:Nat}(hF:2000000≤F)(h1:1≤k)(h2:k≤16){l:qAE}(hl:Bit l)(hm:l.length≤8192){node many least:Int}(hn:Nd node){out:qAE}(ho:(out.length:Int)≤many)(hmm:many≤300)(_hle:0≤least)(hle2:least≤300){p:Nat}(hp:p≤l.length){x:Int×Int×Int}(hx:x.1=many) :
  js F l node least (k:Int) x (p:Int) out=some (gG2 l k node least many out p):=by
 unfold js gG2
 have em:iconv .i64 many=many:=qL (by omega) (by omega)
 rw[hx,em]
 by_cases h0:(out.length:Int)=many
 ·rw[if_pos (by simpa using h0),if_pos h0]
 ·rw[if_neg (by simpa using h0),if_neg h0]
  by_cases h3:0<least
  ·rw[if_pos (by simpa using h3),if_pos h3]
   refine qiG (most:=300) (by omega) hl hm hp (fun g hg=>?_) (fun g hg g0 g1 g2 g3=>?_)
   ·rw[if_pos (by simpa using hg)]
   ·simp only
    rw[if_neg (by simp;omega)]
    have:=qtw hF h1 h2 hl hm hn hmm h3 hle2 hx (x9:=(g.1,(g.2:Int),0)) (n:=g.1.toNat) (by simp only;omega) (by omega) F 0 g.2 out node (by omega) (qyn _) ho g3 (fun h=>by omega) (fun _=>rfl)
    exact this
  ·rw[if_neg (by simpa using h3),if_neg h3]
   exact qrk hF h1 h2 hl hm hn ho hmm hp hx
theorem qtt {F k:Nat}(hF:2000000≤F){l:qAE}(hl:Bit l)(hm:l.length≤8192){node least:Int}{fr:qAE}{x x9:Int×Int×Int}{n:Nat}(hx9:x9.1=(n:Int))(hn3:n≤400) :
  ∀ (j i p:Nat) (bs:qAE),n<j+i→i≤n→bs.length=i→p≤l.length →
  kB F l node fr least (k:Int) x x9 j ((p:Int),bs,(i:Int))=match rbl l 1000 (n-i) (decide (0<i)) p with | none=>some ([],false) | some b=>jw F l node fr least (k:Int) x (b.2:Int) (bs++b.1)
 | 0,_,_,_,_,_,_,_=>by omega
 | j+1,i,p,bs,h,hi,hb,hp=>by
  show qbt F l node fr least (k:Int) x x9 (kB F l node fr least (k:Int) x x9 j) (p:Int) bs (i:Int)=_
  unfold qbt
  rw[hx9]
  by_cases hlt:i<n
  ·rw[if_pos (by simpa using hlt),show n-i=(n-(i+1))+1 from by omega,qgN (by omega) hl hm hp]
   simp only[qxP,rbl]
   cases hr:rgam l p 1000 with
   | none =>
    rw[if_pos (by
     unfold rgam at hr
     split at hr
     ·simp at hr
     ·rename_i hc
      simp only[qyZ,bne_iff_ne,ne_eq,decide_eq_true_eq]
      by_cases h9:(fg l p).2.2=0
      ·right
       have:=fun h8=>hc ⟨h9,h8⟩
       omega
      ·left;exact h9)]
    rfl
   | some g =>
    have hok:=vY hr
    have hfg:fg l p=(g.1,(g.2:Int),0):=by
     unfold rgam at hr
     split at hr
     ·rename_i hc
      simp only[qx2] at hr
      rw[← hr]
      have h3:0≤(fg l p).2.1:=by
       rcases ql0 (l:=l) (a:=p) with h1 | ⟨n,q,h1,h2,h3⟩
       ·exact absurd hc.1 h1
       ·rw[h1];simp
      simp only
      rw[qAe h3,← hc.1]
     ·simp at hr
    rw[hfg]
    simp only[qxP]
    rw[if_neg (by simp;omega)]
    have hst:∀ y:Int,0≤y→y≤2000→jx F (kB F l node fr least (k:Int) x x9 j) bs (i:Int) (g.1,(g.2:Int),0) y=match rbl l 1000 (n-(i+1)) true g.2 with | none=>some ([],false) | some b=>jw F l node fr least (k:Int) x (b.2:Int) (bs++y::b.1):=by
     intro y y0 y1
     unfold jx
     have ey:iconv .i64 y=y:=qL (by omega) (by omega)
     rw[ey,qD (by simp;omega)]
     simp only[qxP]
     rw[qob (by omega) (by omega),show ((i:Int)+1)=((i+1:Nat):Int) from by omega]
     rw[qtt hF hl hm hx9 hn3 j (i+1) g.2 _ (by omega) (by omega) (by simp[hb]) hok.2.2.2,decide_eq_true (show 0<i+1 from by omega)]
     cases rbl l 1000 (n-(i+1)) true g.2 with
     | none=>rfl
     | some b=>simp
    by_cases h0:0<i
    ·rw[if_pos (by simpa using h0),qob (by omega) (by omega),hst _ (by omega) (by omega),decide_eq_true h0]
     simp only[if_true]
     cases rbl l 1000 (n-(i+1)) true g.2 with
     | none=>rfl
     | some b=>rfl
    ·rw[if_neg (by simpa using h0),hst _ (by omega) (by omega),decide_eq_false h0]
     simp only[qxZ,if_false,Int.add_zero]
     cases rbl l 1000 (n-(i+1)) true g.2 with
     | none=>rfl
     | some b=>rfl
  ·rw[if_neg (by simpa using hlt),show n-i=0 from by omega]
   simp[rbl]
theorem qxw {F k:Nat}(hF:2000000≤F)(h1:1≤k)(h2:k≤16){l:qAE}(hl:Bit l)(hm:l.length≤8192){node back least:Int}(hn:Nd node)(hle:0≤least)(hle2:least≤300){fr:qAE}(hfr:0<back→gkc fr=0){p:Nat}(hp:p≤l.length) :
  qeA F l (p:Int) node fr back least (k:Int)=some (gG l p node fr back least k):=by
 unfold qeA gG
 refine qiG (most:=300) (by omega) hl hm hp (fun g hg=>?_) (fun m hg m0 m1 m2 m3=>?_)
 ·rw[if_pos (by simpa using hg)]
 ·simp only
  rw[if_neg (by simp;omega)]
  by_cases h0:m.1=0
  ·rw[if_pos (by simpa using h0),if_pos h0]
  ·rw[if_neg (by simpa using h0),if_neg h0]
   by_cases hb:0<back
   ·have hfl:=(zn.1 (hfr hb)).1
    rw[if_pos (by simpa using hb),if_pos hb]
    have ef:iconv .u64 (iadd .i64 (fr.length:Int) 1)=(fr.length:Int)+1:=by
     rw[qA (by omega) (by omega)]
     exact kn (n:=fr.length+1) (by omega)
    refine qiG (most:=(fr.length:Int)+1) (by omega) hl hm m3 (fun g hg=>?_) (fun n hg n0 n1 n2 n3=>?_)
    ·rw[ef,if_pos (by simpa using hg)]
    ·simp only
     rw[ef,if_neg (by simp;omega)]
     have:=qtt (F:=F) (k:=k) hF hl hm (node:=node) (least:=least) (fr:=fr) (x:=(m.1,(m.2:Int),0)) (x9:=(n.1,(n.2:Int),0)) (n:=n.1.toNat) (by simp only;omega) (by omega) F 0 n.2 [] (by omega) (qyn _) rfl n3
     refine Eq.trans this ?_
     rw[qy9,show decide (0<0)=false from rfl]
     cases hr:rbl l 1000 n.1.toNat false n.2 with
     | none=>rfl
     | some b =>
      have hbl:=qnU n3 hr
      simp only[qx6]
      unfold jw
      rw[que (by omega)]
      simp only[qxP]
      have em:iconv .i64 m.1=m.1:=qL (by omega) (by omega)
      rw[em]
      by_cases hc:(cpy fr b.1).2=0∧((cpy fr b.1).1.length:Int)≤m.1
      ·rw[if_neg (by simp;exact ⟨hc.1,by omega⟩),if_pos hc]
       exact qtv hF h1 h2 hl hm hn hc.2 (by omega) hle hle2 hbl.2 rfl
      ·rw[if_neg hc,if_pos (by
        simp only[qyZ,bne_iff_ne,ne_eq,decide_eq_true_eq]
        by_cases h9:(cpy fr b.1).2=0
        ·right
         have:=fun h8=>hc ⟨h9,h8⟩
         omega
        ·left;exact h9)]
   ·rw[if_neg (by simpa using hb),if_neg hb]
    exact qtv hF h1 h2 hl hm hn (by simp;omega) (by omega) hle hle2 m3 rfl
theorem qrJ {F:Nat}{xs ys:qAE}(he:xs.length=ys.length)(hm:xs.length≤1000000):∀ (k i:Nat),xs.length<k+i→i≤xs.length→yk F xs ys k (i:Int)=some (decide (xs.drop i=ys.drop i))
 | 0,_,_,_=>by omega
 | k+1,i,h,hi=>by
  show jb F xs ys (yk F xs ys k) (i:Int)=_
  unfold jb
  by_cases hlt:i<xs.length
  ·have hlt':i<ys.length:=by omega
   rw[if_pos (by simp;omega),qs,qxR hlt,qs,qxR hlt']
   simp only[qxP]
   rw[qxT hlt,qxT hlt']
   by_cases hc:xs[i]=ys[i]
   ·rw[if_neg (by simp[hc]),qw (by omega),qrJ he hm k (i+1) (by omega) (by omega)]
    congr 1
    rw[decide_eq_decide,qzq]
    exact ⟨fun h=>⟨hc,h⟩,fun h=>h.2⟩
   ·rw[if_pos (by simpa using hc),decide_eq_false (fun e=>hc (qAi e).1)]
  ·rw[if_neg (by simp;omega),qxW (by omega),qxW (by omega)]
   rfl
theorem qkF {F:Nat}{xs ys:qAE}(hF:xs.length<F)(hm:xs.length≤1000000):jq F xs ys=some (decide (xs=ys)):=by
 unfold jq
 by_cases h:xs.length=ys.length
 ·rw[if_neg (by simp[h])]
  have:=qrJ (F:=F) h hm F 0 (by omega) (qyn _)
  rw[qx8,qx8] at this
  exact this
 ·rw[if_pos (by simp;omega),decide_eq_false (fun e=>h (by rw[e]))]
theorem qoZ {k:Nat}(h1:1≤k)(h2:k≤16){node q:Int}(hn:Nd node){S out x:qAE}(hS:Ris q S)(hx:gkc x=0)(hp:(out++S).Perm x)(P T:qAE) :
  gGap (P++(zes k (gp false node S)++T)) k node x.length out P.length=(x,true):=by
 have hlen2:=hp.length_eq
 rw[qxQ] at hlen2
 unfold gGap
 rw[show ((x.length:Int)-out.length).toNat=(gp false node S).length from by rw[qdX];omega]
 have h40:L40 (gp false node S):=fun z hz=>by have:=ql6 hn hS (by simp) z hz;omega
 have:=qnz h1 h2 P T h40 (qq3 (b:=false) hn hS (by simp))
 rw[qxS] at this
 rw[this]
 simp only
 rw[qhn hp (qkD (qhb hx))]
theorem qrl {node least many:Int}{k:Nat}(hle:0≤least)(hmm:many≤300):∀ (R:List (Int×Int)) (b:Bool) (a q:Int) (out P T:qAE),(∀ r∈R,RunOk r∧least≤r.2)→Nd a→Sep q R→(b=true→a+1≤q)→(b=false→a=node)→((out.length:Int)+(flat R).length≤many) →
  gRn (P++(encRs least b a R++T)) k node least many R.length b a out P.length=gGap (P++(encRs least b a R++T)) k node many (out++flat R) (P.length+(encRs least b a R).length)
 | [],_,_,_,_,P,T,_,_,_,_,_,_=>by simp[gRn,encRs,flat]
 | r::R,b,a,q,out,P,T,hR,ha,hs,hb,hb0,ho=>by
  obtain ⟨hro,hrl⟩:=hR r (by simp)
  obtain ⟨s1,s2,s3⟩:=hs
  unfold RunOk at hro
  have ha':=ha
  unfold Nd at ha'
  have hf:=qfD (x:=r.1-a) (by omega)
  have hf2:foldOf (r.1-a)≤2097152:=by unfold foldOf;split <;> omega
  have hv:0≤(if b=true then r.1-a-2 else foldOf (r.1-a))∧(if b=true then r.1-a-2 else foldOf (r.1-a))≤2097152:=by
   cases b with
   | false=>simp;omega
   | true=>have:=hb rfl;simp;omega
  rw[zO,qxQ,va] at ho
  unfold encRs
  simp only[qxY,gRn,qxS]
  rw[qiR hv.1 (by omega) (by omega)]
  simp only
  have e1:=qiR (n:=r.2-least) (most:=1000) (by omega) (by omega) (by omega) (P++ga (if b=true then r.1-a-2 else foldOf (r.1-a)).toNat) (encRs least true (r.1+r.2-1) R++T)
  simp only[qxS,qxQ] at e1
  rw[e1]
  simp only
  have e2:gFst b a node (if b=true then r.1-a-2 else foldOf (r.1-a))=r.1:=by
   unfold gFst
   cases b with
   | false =>
    have:=hb0 rfl
    subst this
    simp only[qxZ,if_false]
    have:st false a (foldOf (r.1-a))=some r.1:=by
     unfold st
     rw[if_neg (by omega)]
     simp only[qxZ,if_false]
     rw[qht,show a+(r.1-a)=r.1 from by omega,if_pos (show Nd r.1 from hro.1)]
    rw[this]
   | true=>simp only[if_true];omega
  rw[e2,show r.2-least+least=r.2 from by omega,show r.1+(r.2-least)+least-1=r.1+r.2-1 from by omega]
  rw[if_neg (by omega),if_neg (by rw[qxQ,va];omega)]
  have:=qrl (node:=node) (k:=k) hle hmm R true (r.1+r.2-1) (r.1+r.2) (out++rng r.1 r.2.toNat) ((P++ga (if b=true then r.1-a-2 else foldOf (r.1-a)).toNat)++ga (r.2-least).toNat) T (fun z hz=>hR z (by simp[hz])) (by unfold Nd;omega) s3 (fun _=>by omega) (fun h=>by simp at h) (by rw[qxQ,va];omega)
  simp only[qxS,qxQ] at this
  rw[show P.length+(ga (if b=true then r.1-a-2 else foldOf (r.1-a)).toNat).length+(ga (r.2-least).toNat).length=P.length+((ga (if b=true then r.1-a-2 else foldOf (r.1-a)).toNat).length+(ga (r.2-least).toNat).length) from by omega,this]
  simp only[qxQ,zO]
  congr 1
  omega
theorem qrj {k:Nat}(h1:1≤k)(h2:k≤16){node least:Int}(hn:Nd node)(_hle:least=0∨2≤least∧least≤300){rest out x:qAE}(hr:gkc rest=0)(hx:gkc x=0)(ho:out.Pairwise (·≤·))(hp:(out++rest).Perm x)(P T:qAE) :
  gG2 (P++(encL node rest least k++T)) k node least x.length out P.length=(x,true):=by
 have hlen2:=hp.length_eq
 have hxm:=(zn.1 hx).1
 obtain ⟨hrm,hrs⟩:=zn.1 hr
 rw[qxQ] at hlen2
 unfold gG2 encL
 by_cases h0:rest=[]
 ·subst h0
  simp only[qyc,qyP] at hlen2
  rw[if_pos (by omega)]
  rw[qyh] at hp
  have e1:=qhn hp (qkD (qhb hx))
  have e2:=qhn (qyB out) ho
  rw[e2] at e1
  rw[e1]
 ·have hl0:rest.length≠0:=by simpa using h0
  rw[if_neg (by omega),if_neg h0]
  obtain ⟨e1,e2,e3,e4⟩:=qjT (least:=least) hr
  by_cases hl:0<least
  ·have hlen:=e3.length_eq
   rw[qxQ] at hlen
   obtain ⟨r1,r2⟩:=qms hrm hrs
   have hO:encO rest least=spO least (rs rest):=by unfold encO;rw[if_pos hl]
   have hsep:Sep (-1) (encO rest least):=by rw[hO];exact qds _ r1
   have hfl:=qgt hsep
   rw[if_pos hl,if_pos hl]
   unfold encR
   simp only[qxS]
   rw[qf5 (by omega) (by omega)]
   simp only[qxU]
   have:=qrl (k:=k) (node:=node) (least:=least) (many:=(x.length:Int)) (by omega) (by omega) (encO rest least) false node (-1) out (P++ga (encO rest least).length) (zes k (gp false node (encS rest least))++T) (fun r hrr=>by rw[hO] at hrr;exact ⟨r2 r (qyR.1 hrr).1,by simpa using (qyR.1 hrr).2⟩) hn hsep (fun h=>by simp at h) (fun _=>rfl) (by omega)
   simp only[qxS,qxQ] at this
   rw[this]
   have hpx:((out++flat (encO rest least))++encS rest least).Perm x:=by
    rw[qxS]
    exact (qy6 out e3).trans hp
   have:=qoZ h1 h2 hn e2 hx hpx (P++(ga (encO rest least).length++encRs least false node (encO rest least))) T
   simp only[qxS,qxQ] at this
   rw[qyM]
   exact this
  ·have hO:encO rest least=[]:=by unfold encO;rw[if_neg hl]
   rw[if_neg hl,if_neg hl,qx6]
   rw[hO] at e3
   exact qoZ h1 h2 hn e2 hx ((qy6 out e3).trans hp) P T
theorem qwU {k:Nat}(h1:1≤k)(h2:k≤16){node back least:Int}{x fr:qAE}(hn:Nd node)(hle:least=0∨2≤least∧least≤300)(hx:gkc x=0)(hfr:0<back→gkc fr=0)(P T:qAE) :
  gG (P++(enc node x fr back least k++T)) P.length node fr back least k=(x,true):=by
 have hxm:=(zn.1 hx).1
 unfold gG enc rstO
 rw[qxS,qf5 (by omega) (by omega)]
 simp only
 by_cases h0:x=[]
 ·subst h0
  rw[if_pos (by simp)]
 ·have hx0:x.length≠0:=by simpa using h0
  rw[if_neg (by omega),if_neg h0]
  by_cases hb:0<back
  ·have hfg:=hfr hb
   have hfl:=(zn.1 hfg).1
   rw[if_pos hb,if_pos hb,if_pos hb]
   have htl:=qhR fr x
   have hok:okB true (tbs fr x)=true:=qhe _ _ _ _ (by omega) (Or.inl rfl)
   have hsum:bsum (tbs fr x)≤0+(fr.map (hasB x)).length:=qf0 _ _ _ (by omega)
   rw[qyG] at hsum
   have e0:=qf5 (n:=(tbs fr x).length) (most:=(fr.length:Int)+1) (by omega) (by omega) (P++ga x.length) (encBs false (tbs fr x)++(encL node (rst fr x) least k++T))
   have e1:=qnT (many:=1000) (by omega) (tbs fr x) false ((P++ga x.length)++ga (tbs fr x).length) (encL node (rst fr x) least k++T) hok (fun n hnm=>by have:=qhD hok n hnm;omega)
   unfold encB
   simp only[qxS,qxQ] at e0 e1 ⊢
   rw[e0]
   simp only[qxU]
   rw[qyM,e1]
   simp only
   rw[qrb hfg]
   have hbe:=qpe hfg hx
   have hfx:(fr.filter (hasB x)).length≤x.length:=by rw[hbe];exact qzP _ _
   rw[if_pos ⟨rfl,by simp only;omega⟩]
   have hperm:(fr.filter (hasB x)++rst fr x).Perm x:=by rw[hbe];exact ql1 _ _
   have:=qrj h1 h2 hn hle (qiS hx) hx (qkD ((qhb hfg).sublist qzD)) hperm ((P++ga x.length)++(ga (tbs fr x).length++encBs false (tbs fr x))) T
   simp only[qxS,qxQ] at this
   simp only[qyM]
   exact this
  ·rw[if_neg hb,if_neg hb,if_neg hb,qx6]
   have:=qrj h1 h2 hn hle hx hx (out:=[]) (by simp) (by simp) (P++ga x.length) T
   simp only[qxS,qxQ] at this
   exact this
theorem qkp {k:Nat}(h1:1≤k)(h2:k≤16){l:qAE}{p:Nat}(hp:p≤l.length){node back least:Int}{x fr:qAE}(hn:Nd node)(hle:least=0∨2≤least∧least≤300)(hx:gkc x=0)(hfr:0<back→gkc fr=0)(hs:(l.drop p).take (enc node x fr back least k).length=enc node x fr back least k) :
  gG l p node fr back least k=(x,true)∧rls l p node fr back least k=some (x,p+(enc node x fr back least k).length):=by
 have e:l=l.take p++(enc node x fr back least k++(l.drop p).drop (enc node x fr back least k).length):=by
  conv=>lhs;rw[← qyA p l,← qyA (enc node x fr back least k).length (l.drop p),hs]
 have hpl:(l.take p).length=p:=by rw[qye];omega
 have a1:=qwU h1 h2 hn hle hx hfr (l.take p) ((l.drop p).drop (enc node x fr back least k).length)
 have a2:=qrQ h1 h2 hn hle hx hfr (l.take p) ((l.drop p).drop (enc node x fr back least k).length)
 rw[← e,hpl] at a1 a2
 exact ⟨a1,a2⟩
theorem qsG {F:Nat}(hF:2000000≤F){m p node back least k:Int}{b fr:qAE}(hb:U8s b):qct F m b p node fr back least k=some (sr m b p node fr back least k):=by
 have hj:qaX F m b p node fr back least k (srE m b p node fr back least k)=some (sr m b p node fr back least k):=by
  unfold qaX sr
  by_cases h:srE m b p node fr back least k=0
  ·rw[if_neg (by simp[h]),if_neg (by simp[h])]
   obtain ⟨h1,h2,h3⟩:=qxc h
   obtain ⟨k1,k2,k',rfl,k3,k4⟩:=qam h1
   obtain ⟨n1,n2⟩:=quy h3
   rcases qt8 hb (m:=m) (a:=p) with hx | ⟨l,i,hl,hlm,rfl,rfl,rfl,hi⟩
   ·exact absurd h2 hx
   ·have hbl:qas F (l.length:Int) (pk l)=some l:=by
     rw[qih (by omega) (qf2 hl) (by rw[qhg];omega) (by omega),qcC hl]
    rw[hbl]
    simp only[qxP,qxU,qcC hl]
    rw[qxw hF k3 k4 hl hlm n1 (by omega) (by omega) n2 hi]
    simp only[qxP]
    cases hr:rdl l i node fr back least k' with
    | some r =>
     obtain ⟨r1,r2,r3,r4,r5⟩:=qiP hl k3 hr
     have hg:=(qkp k3 k4 hi n1 k2 r1 n2 r4).1
     rw[hg]
     simp only
     rw[if_neg (by simp),qhH (by omega)]
     simp only[qxP]
     unfold jc
     rw[if_neg (by simp[r1]),qjg hF k3 k4 n1 r1 n2]
     simp only[qxP]
     rw[qG (by omega) (by omega),if_neg (by simp;omega),qA (by omega) (by omega),show ((i:Int)+((enc node r.1 fr back least k').length:Int))=((i+(enc node r.1 fr back least k').length:Nat):Int) from by omega,qfJ (by omega) (by omega)]
     simp only[qxP]
     rw[show (l.take (i+(enc node r.1 fr back least k').length)).drop i=enc node r.1 fr back least k' from by rw[qzW,qzY];exact r4]
     rw[qkP (by omega) (by omega)]
     simp only[qxP,qyE]
     unfold qaY
     rw[if_neg (by simp),qA (by omega) (by omega),← r3]
     congr 3
    | none =>
     simp only
     have hno:∀ x:qAE,gkc x=0→(enc node x fr back least k').length≤8192→(l.drop i).take (enc node x fr back least k').length≠enc node x fr back least k':=by
      intro x hx hxl hs
      have h9:=(qkp k3 k4 hi n1 k2 hx n2 hs).2
      unfold rdl at hr
      rw[h9] at hr
      simp only[qxP] at hr
      rw[if_pos ⟨hx,hxl,trivial,hs⟩] at hr
      simp at hr
     by_cases hg:(gG l i node fr back least k').2=true
     ·rw[if_neg (by simp[hg]),qhH (by omega)]
      simp only[qxP]
      unfold jc
      by_cases hx:gkc (gG l i node fr back least k').1=0
      ·rw[if_neg (by simp[hx]),qjg hF k3 k4 n1 hx n2]
       simp only[qxP]
       rw[qG (by omega) (by omega)]
       unfold qaY
       by_cases hc:((l.length:Int)-(i:Int))<((enc node (gG l i node fr back least k').1 fr back least k').length:Int)
       ·rw[if_pos (by simpa using hc),if_pos rfl]
       ·rw[if_neg (by simpa using hc),qA (by omega) (by omega),show ((i:Int)+((enc node (gG l i node fr back least k').1 fr back least k').length:Int))=((i+(enc node (gG l i node fr back least k').1 fr back least k').length:Nat):Int) from by omega,qfJ (by omega) (by omega)]
        simp only[qxP]
        have hne:=hno _ hx (by omega)
        rw[qkF (by simp;omega) (by simp;omega),decide_eq_false (by
         rw[qzW,qzY];exact hne)]
        simp only[qxP,qzO]
        rw[if_pos (by trivial)]
      ·rw[if_pos (by simpa using hx)]
     ·rw[if_pos (by simpa using hg)]
      unfold jc
      rw[if_pos rfl]
  ·rw[if_pos (by simpa using h),if_pos h]
 unfold qct
 rw[qnX]
 simp only[qxP]
 by_cases h1:hcE back least k=0
 ·rw[if_pos (by simpa using h1),qqw (by omega) hb]
  simp only[qxP]
  unfold qaW
  by_cases h2:raOf m b p=0
  ·have e:srE m b p node fr back least k=scE node fr back:=by unfold srE;rw[if_neg (by simp[h1]),if_neg (by simp[h2])]
   rw[if_pos (by simpa using h2),qut (by omega),← e]
   exact hj
  ·have e:srE m b p node fr back least k=raOf m b p:=by unfold srE;rw[if_neg (by simp[h1]),if_pos h2]
   rw[if_neg (by simpa using h2),← e]
   exact hj
 ·have e:srE m b p node fr back least k=hcE back least k:=by unfold srE;rw[if_pos h1]
  rw[if_neg (by simpa using h1)]
  unfold qaW
  rw[if_neg (by simpa using h1),← e]
  exact hj
theorem qlX:∀ (bs:qAE) (b:Bool),(∀ n∈bs,n≤1000000)→(encBs b bs).length≤81*bs.length
 | [],_,_=>by simp[encBs]
 | n::bs,b,hn=>by
  have h3:=qlX bs true (fun y hy=>hn y (by simp[hy]))
  have h4:=hn n (by simp)
  have h5:=qd4 (n:=(n-if b then 1 else 0).toNat) (by split <;> omega)
  simp only[encBs,qxQ,qxY]
  omega
theorem qlY {least:Int}(hle:0≤least):∀ (R:List (Int×Int)) (b:Bool) (a:Int),(∀ r∈R,RunOk r)→-2000≤a∧a≤1100000→(encRs least b a R).length≤162*R.length
 | [],_,_,_,_=>by simp[encRs]
 | r::R,b,a,hR,ha=>by
  have hr:=hR r (by simp)
  unfold RunOk at hr
  have h3:=qlY hle R true (r.1+r.2-1) (fun z hz=>hR z (by simp[hz])) (by omega)
  have hf:=qfD (x:=r.1-a) (by omega)
  have h4:=qd4 (n:=(if b then r.1-a-2 else foldOf (r.1-a)).toNat) (by split <;> omega)
  have h5:=qd4 (n:=(r.2-least).toNat) (by omega)
  simp only[encRs,qxQ,qxY]
  omega
theorem qvr {node back least:Int}{x fr:qAE}{k:Nat}(hk:k≤16)(hn:Nd node)(hx:gkc x=0)(hfr:gkc fr=0)(hle:0≤least):(enc node x fr back least k).length≤300000:=by
 obtain ⟨hm,hs⟩:=zn.1 hx
 have hfl:=(zn.1 hfr).1
 unfold enc
 have g1:=qd4 (n:=x.length) (by omega)
 have hn':=hn
 unfold Nd at hn'
 rw[qxQ]
 by_cases h0:x=[]
 ·rw[if_pos h0];simp;omega
 ·rw[if_neg h0,qxQ]
  have hB:(if 0<back then encB (tbs fr x) else []).length≤30000:=by
   split
   ·have htl:=qhR fr x
    have hok:okB true (tbs fr x)=true:=qhe _ _ _ _ (by omega) (Or.inl rfl)
    have hsum:bsum (tbs fr x)≤0+(fr.map (hasB x)).length:=qf0 _ _ _ (by omega)
    rw[qyG] at hsum
    have h1:=qlX (tbs fr x) false (fun n hnm=>by have:=qhD hok n hnm;omega)
    have h2:=qd4 (n:=(tbs fr x).length) (by omega)
    unfold encB
    rw[qxQ]
    omega
   ·simp
  have hr:gkc (rstO x fr back)=0:=by
   unfold rstO
   split
   ·exact qiS hx
   ·exact hx
  obtain ⟨hrm,hrs⟩:=zn.1 hr
  have hL:(encL node (rstO x fr back) least k).length≤200000:=by
   unfold encL
   split
   ·simp
   ·rw[qxQ]
    obtain ⟨s1,s2⟩:=qn2 (least:=least) hrm hrs
    obtain ⟨r1,r2⟩:=qms hrm hrs
    have e2:=(qjT (least:=least) hr).2.1
    have hz:=qoj hk (g:=gp false node (encS (rstO x fr back) least)) (fun z hz=>by have:=ql6 hn e2 (by simp) z hz;omega)
    rw[qdX] at hz
    have hS:(encS (rstO x fr back) least).length≤300:=by unfold encS;split <;> omega
    have hR:(if 0<least then encR least node (encO (rstO x fr back) least) else []).length≤60000:=by
     by_cases hl:0<least
     ·rw[if_pos hl]
      unfold encR encO
      rw[if_pos hl,qxQ]
      have h1:=qlY hle (spO least (rs (rstO x fr back))) false node (fun r hrr=>r2 r (qyR.1 hrr).1) (by omega)
      have h2:=qd4 (n:=(spO least (rs (rstO x fr back))).length) (by omega)
      omega
     ·rw[if_neg hl];simp
    omega
  omega
theorem qnO {g:List (qAE)}(hg:Gr g){B least:Int}{k i r:Nat}(hh:hcE B least (k:Int)=0)(hi:i≤100)(hr:r≤100):(pkW g B least k i r).length≤301000:=by
 obtain ⟨k1,k2,k',hk,k3,k4⟩:=qam hh
 have:=qvr (node:=(i:Int)) (back:=(r:Int)) (least:=least) (x:=g.getD i []) (fr:=pkF g i r) (k:=k) (by omega) (by unfold Nd;omega) (qi9 hg i) (qjY hg i r) (by omega)
 have h2:=qd4 (n:=r) (by omega)
 unfold pkW pkH
 rw[qxQ]
 split
 ·omega
 ·simp only[qyc];omega
def bsr (f:Nat→qAE)(j:Nat):Int×qAE:=if j=0 then (-1,[]) else (((bwy f (j-1)).1:Int),(bwy f (j-1)).2)
theorem qrT {F:Nat}(hF:2000000≤F){g:List (qAE)}(hg:Gr g){B least:Int}{k i:Nat}(hh:hcE B least (k:Int)=0)(hi:i<g.length):∀ (n j:Nat),min B.toNat i+1<n+j→j≤min B.toNat i+1 →
  zL F g (i:Int) B least (k:Int) n ((bsr (pkW g B least k i) j).1,(bsr (pkW g B least k i) j).2,(j:Int))=some (((pkN g B least k i).1:Int),(pkN g B least k i).2)
 | 0,_,_,_=>by omega
 | n+1,j,h,hj=>by
  have hgl:=hg.1
  obtain ⟨k1,k2,k',hk,k3,k4⟩:=qam hh
  have hkk:k=k':=by omega
  subst hkk
  show qci F g (i:Int) B least (k:Int) (zL F g (i:Int) B least (k:Int) n) (bsr (pkW g B least k i) j).1 (bsr (pkW g B least k i) j).2 (j:Int)=_
  unfold qci
  by_cases hlt:j<min B.toNat i+1
  ·rw[if_pos (by simp;omega)]
   have hrec:=qrT hF hg hh hi n (j+1) (by omega) (by omega)
   have hlen:=qnO hg (B:=B) (least:=least) (k:=k) (i:=i) (r:=j) hh (by omega) (by omega)
   have hW:∀ H:qAE,H=pkH B j→j7 F (zL F g (i:Int) B least (k:Int) n) g (i:Int) least (k:Int) (bsr (pkW g B least k i) j).1 (bsr (pkW g B least k i) j).2 (j:Int) H=some (((pkN g B least k i).1:Int),(pkN g B least k i).2):=by
    intro H hH
    have h33:j8 F (zL F g (i:Int) B least (k:Int) n) g (i:Int) least (k:Int) (bsr (pkW g B least k i) j).1 (bsr (pkW g B least k i) j).2 (j:Int) H (pkF g i j)=some (((pkN g B least k i).1:Int),(pkN g B least k i).2):=by
     unfold j8
     rw[qha hi]
     simp only[qxP]
     rw[qjg hF k3 k4 (by unfold Nd;omega) (qi9 hg i) (fun _=>qjY hg i j)]
     simp only[qxP]
     have e:H++enc (i:Int) (g.getD i []) (pkF g i j) (j:Int) least k=pkW g B least k i j:=by rw[hH];rfl
     rw[qD (by rw[← qxQ,e];omega)]
     simp only[qxP]
     rw[e]
     unfold qcj
     rw[qw (by omega)]
     by_cases h0:j=0
     ·subst h0
      rw[if_pos (by simp[bsr]),← hrec]
      rfl
     ·obtain ⟨q,rfl⟩:∃ q,j=q+1:=⟨j-1,by omega⟩
      have eb:bsr (pkW g B least k i) (q+1)=(((bwy (pkW g B least k i) q).1:Int),(bwy (pkW g B least k i) q).2):=by
       unfold bsr;rw[if_neg (by omega),qym]
      have eb2:bsr (pkW g B least k i) (q+1+1)=(((bwy (pkW g B least k i) (q+1)).1:Int),(bwy (pkW g B least k i) (q+1)).2):=by
       unfold bsr;rw[if_neg (by omega),qym]
      rw[eb2] at hrec
      rw[eb]
      simp only
      by_cases hc:(pkW g B least k i (q+1)).length<(bwy (pkW g B least k i) q).2.length
      ·rw[if_pos (by simp;omega),← hrec,bwy,if_pos hc]
      ·rw[if_neg (by simp;omega),← hrec,bwy,if_neg hc]
    unfold j7
    by_cases h0:0<j
    ·rw[if_pos (by simpa using h0),qG (by omega) (by omega),show ((i:Int)-(j:Int))=((i-j:Nat):Int) from by omega,qha (by omega)]
     simp only[qxP]
     have e:pkF g i j=g.getD (i-j) []:=by unfold pkF;rw[if_pos h0]
     rw[← e]
     exact h33
    ·rw[if_neg (by simpa using h0)]
     have e:pkF g i j=[]:=by unfold pkF;rw[if_neg h0]
     rw[← e]
     exact h33
   by_cases hB:0<B
   ·rw[if_pos (by simpa using hB),kn (by omega),qgM (by omega) (by omega)]
    simp only[qxP]
    exact hW _ (by unfold pkH;rw[if_pos hB])
   ·rw[if_neg (by simpa using hB)]
    exact hW _ (by unfold pkH;rw[if_neg hB])
  ·rw[if_neg (by simp;omega)]
   have:j=min B.toNat i+1:=by omega
   subst this
   unfold qd8 bsr pkN
   rw[if_neg (by omega),qym]
theorem qum {F:Nat}(hF:2000000≤F){g:List (qAE)}(hg:Gr g){B least:Int}{k i:Nat}(hh:hcE B least (k:Int)=0)(hi:i<g.length):qgD F g (i:Int) B least (k:Int)=some (((pkN g B least k i).1:Int),(pkN g B least k i).2):=by
 have hgl:=hg.1
 exact qrT hF hg hh hi F 0 (by omega) (qyn _)
theorem qrF {g:List (qAE)}(hg:Gr g){B least:Int}{k:Nat}(hh:hcE B least (k:Int)=0):∀ i:Nat,i≤100→(pkA g B least k i).1.length≤301000*i
 | 0,_=>by simp[pkA]
 | i+1,h=>by
  have h1:=qrF hg hh i (by omega)
  obtain ⟨hr,hN⟩:=qje (g:=g) (B:=B) (least:=least) (k:=k) (i:=i)
  have h2:=qnO hg (B:=B) (least:=least) (k:=k) (i:=i) (r:=(pkN g B least k i).1) hh (by omega) (by omega)
  rw[pkA,qxQ,hN]
  omega
theorem qmr {F:Nat}(hF:2000000≤F){g:List (qAE)}(hg:Gr g){B least:Int}{k:Nat}(hh:hcE B least (k:Int)=0):∀ (j i:Nat),g.length<j+i→i≤g.length →
  yx F g B least (k:Int) j ((pkA g B least k i).1,(pkA g B least k i).2.1,(pkA g B least k i).2.2,(i:Int))=some (if 8192<(pkA g B least k g.length).1.length then ([],[],[],8) else ((pkA g B least k g.length).1,(pkA g B least k g.length).2.1,(pkA g B least k g.length).2.2,0))
 | 0,_,_,_=>by omega
 | j+1,i,h,hi=>by
  have hgl:=hg.1
  show qcm F g B least (k:Int) (yx F g B least (k:Int) j) (pkA g B least k i).1 (pkA g B least k i).2.1 (pkA g B least k i).2.2 (i:Int)=_
  unfold qcm
  by_cases hlt:i<g.length
  ·have h1:=qrF hg hh (B:=B) (least:=least) (k:=k) i (by omega)
   obtain ⟨hr,hN⟩:=qje (g:=g) (B:=B) (least:=least) (k:=k) (i:=i)
   have h2:=qnO hg (B:=B) (least:=least) (k:=k) (i:=i) (r:=(pkN g B least k i).1) hh (by omega) (by omega)
   rw[← hN] at h2
   obtain ⟨l1,l2⟩:=qkB (g:=g) (B:=B) (least:=least) (k:=k) i
   rw[if_pos (by simp;omega),qum hF hg hh hlt]
   simp only[qxP]
   rw[qD (by rw[l1];simp;omega)]
   simp only[qxP]
   rw[qD (by rw[l2];simp;omega)]
   simp only[qxP]
   rw[qD (by omega)]
   simp only[qxP]
   rw[qw (by omega)]
   exact qmr hF hg hh j (i+1) (by omega) (by omega)
  ·rw[if_neg (by simp;omega)]
   have:i=g.length:=by omega
   subst this
   unfold qd9
   by_cases hc:8192<(pkA g B least k g.length).1.length
   ·rw[if_pos (by simp;omega),if_pos hc]
   ·rw[if_neg (by simp;omega),if_neg hc]
def rpw (g:List (qAE))(B least k:Int):qAE×qAE×qAE×Int :=
 if pkE g B least k≠0 then ([],[],[],pkE g B least k) else ((pkA g B least k.toNat g.length).1,(pkA g B least k.toNat g.length).2.1,(pkA g B least k.toNat g.length).2.2,0)
theorem qkK {F:Nat}(hF:2000000≤F){g:List (qAE)}{B least k:Int}:qcK F g B least k=some (rpw g B least k):=by
 unfold qcK rpw
 rw[qhj (by omega)]
 simp only[qxP]
 unfold qcn
 by_cases h1:gchk g=0
 ·rw[if_pos (by simpa using h1),qnX]
  simp only[qxP]
  by_cases h2:hcE B least k=0
  ·rw[if_neg (by simp[h2])]
   obtain ⟨_,_,k',rfl,_,_⟩:=qam h2
   have hg:=qaQ.1 h1
   have hgl:=hg.1
   have hl:yx F g B least (k':Int) F ([],[],[],0)=_:=qmr hF hg h2 F 0 (by omega) (qyn _)
   rw[hl,qxU]
   by_cases h3:8192<(pkA g B least k' g.length).1.length
   ·have hE0:pkE g B least (k':Int)=8:=by
     unfold pkE
     rw[if_neg (by simp[h1]),if_neg (by simp[h2]),if_pos (by rw[qxU];omega)]
    rw[if_pos h3,hE0,if_pos (by decide)]
   ·have hE0:pkE g B least (k':Int)=0:=qtX h1 h2 (by rw[qxU];omega)
    rw[if_neg h3,if_neg (by simp[hE0])]
  ·have hE:pkE g B least k=hcE B least k:=by
    unfold pkE
    rw[if_neg (by simp[h1]),if_pos h2]
   rw[if_pos (by simpa using h2),hE,if_pos h2]
 ·have hE:pkE g B least k=gchk g:=by
   unfold pkE
   rw[if_pos h1]
  rw[if_neg (by simpa using h1),if_pos (by simpa using h1),hE,if_pos h1]
theorem qqy {F:Nat}(hF:20000≤F){N B least k m:Int}{b:qAE}(hb:U8s b):qev F N B least k m b=some (pcE N B least k m b):=by
 unfold qev qco pcE
 rw[qdq]
 simp only[qxP]
 by_cases h1:N<0∨100<N
 ·rw[if_pos (by simp;omega),if_pos h1]
 ·rw[if_neg (by simp;omega),if_neg h1,qnX]
  simp only[qxP]
  by_cases h2:hcE B least k=0
  ·rw[if_pos (by simpa using h2),if_neg (by simp[h2]),qiB hF hb]
   rfl
  ·rw[if_neg (by simpa using h2),if_pos h2]
theorem qmp {F k:Nat}(hF:2000000≤F){l:qAE}(hl:Bit l)(hm:l.length≤8192){B least:Int}(hh:hcE B least (k:Int)=0){n:Nat}(hn:n≤100):∀ (j p:Nat) (out:List (qAE)),n<j+out.length→out.length≤n→p≤l.length→(∀ x∈out,gkc x=0) →
  zM F (n:Int) B least (k:Int) (l.length:Int) (pk l) l j ((p:Int),(out.length:Int),out)=match pkR l B least k (n-out.length) out p with | none=>some ([],1) | some r=>vz F B least (k:Int) l r.1
 | 0,_,_,_,_,_,_=>by omega
 | j+1,p,out,h,ho,hp,hg=>by
  obtain ⟨k1,k2,k',hk,k3,k4⟩:=qam hh
  have hkk:k=k':=by omega
  subst hkk
  show qck F (n:Int) B least (k:Int) (l.length:Int) (pk l) l (zM F (n:Int) B least (k:Int) (l.length:Int) (pk l) l j) (p:Int) (out.length:Int) out=_
  unfold qck
  by_cases hlt:out.length<n
  ·rw[if_pos (by simp;omega),show n-out.length=(n-(out.length+1))+1 from by omega]
   have h25:∀ o:Int×Nat,0≤o.1→o.1≤min B (out.length:Int)→o.2≤l.length→qaa F (zM F (n:Int) B least (k:Int) (l.length:Int) (pk l) l j) least (k:Int) (l.length:Int) (pk l) (out.length:Int) out (o.2:Int) o.1=match (rdl l o.2 (out.length:Int) (pkF out out.length o.1.toNat) o.1 least k).bind fun r=>pkR l B least k (n-(out.length+1)) (out++[r.1]) r.2 with | none=>some ([],1) | some r=>vz F B least (k:Int) l r.1:=by
    intro o o1 o2 o3
    have hfr:gkc (pkF out out.length o.1.toNat)=0:=by
     unfold pkF
     split
     ·rw[qyo]
      by_cases hq:out.length-o.1.toNat<out.length
      ·rw[qxR hq];exact hg _ (qx9 hq)
      ·rw[qyi (by omega)];decide
     ·decide
    have hho:hcE o.1 least (k:Int)=0:=by
     have:=qtF (r:=o.1.toNat) hh (by omega)
     rwa [show ((o.1.toNat:Nat):Int)=o.1 from by omega] at this
    have hstep:∀ fr:qAE,fr=pkF out out.length o.1.toNat→((qct F (l.length:Int) (pk l) (o.2:Int) (out.length:Int) fr o.1 least (k:Int)).bind fun x602=>(if ((x602.2.2:Int) != 0) then some (([]:List (qAE)),(1:Int)) else ((app 2199023255552 out ([x602.1]:List (qAE))).bind fun x608=>j9 F (zM F (n:Int) B least (k:Int) (l.length:Int) (pk l) l j) (out.length:Int) x602.2.1 x608)))=match (rdl l o.2 (out.length:Int) (pkF out out.length o.1.toNat) o.1 least k).bind fun r=>pkR l B least k (n-(out.length+1)) (out++[r.1]) r.2 with | none=>some ([],1) | some r=>vz F B least (k:Int) l r.1:=by
     intro fr hfe
     subst hfe
     rw[qsG hF (qf2 hl),qxG hl hm o3 hho (qux (by unfold Nd;omega) (fun _=>hfr)),qxU]
     simp only[qxP]
     cases hr:rdl l o.2 (out.length:Int) (pkF out out.length o.1.toNat) o.1 least k with
     | none=>rfl
     | some r =>
      obtain ⟨r1,r2,r3,r4,r5⟩:=qiP hl k3 hr
      simp only[qxP]
      rw[if_neg (by simp),qD (by simp;omega)]
      simp only[qxP]
      unfold j9
      have hl1:(out++[r.1]).length=out.length+1:=by simp
      have hrec:=qmp hF hl hm hh hn j r.2 (out++[r.1]) (by omega) (by omega) r5 (fun x hx=>by
       rcases qxV.1 hx with hx | hx
       ·exact hg x hx
       ·simp at hx;subst hx;exact r1)
      rw[hl1] at hrec
      rw[qw (by omega),hrec]
    have ecv:iconv .i64 o.1=o.1:=qL (by omega) (by omega)
    unfold qaa
    rw[ecv]
    by_cases h0:0<o.1
    ·rw[if_pos (by simpa using h0),qG (by omega) (by omega),show ((out.length:Int)-o.1)=((out.length-o.1.toNat:Nat):Int) from by omega,qha (by omega)]
     simp only[qxP]
     exact hstep _ (by unfold pkF;rw[if_pos (by omega)])
    ·rw[if_neg (by simpa using h0)]
     exact hstep _ (by unfold pkF;rw[if_neg (by omega)])
   simp only[pkR]
   by_cases hB:0<B
   ·rw[if_pos (by simpa using hB),qgN (by omega) hl hm hp]
    simp only[qxP]
    have hcv:iconv .u64 B=B:=by
     obtain ⟨q,hq⟩:=qx0 (a:=B) (by omega)
     rw[hq];exact kn (by omega)
    have hO:pkO l B out.length p=rgam l p (min B (out.length:Int)):=by unfold pkO;rw[if_neg (by omega)]
    rw[hcv,hO]
    cases hr:rgam l p (min B (out.length:Int)) with
    | none =>
     have hbad:(fg l p).2.2≠0∨B<(fg l p).1∨(out.length:Int)<iconv .i64 (fg l p).1:=by
      rcases ql0 (l:=l) (a:=p) with h1 | ⟨v,q,h1,h2,h3⟩
      ·exact Or.inl h1
      ·rcases qmo hr with h4 | h4
       ·exact Or.inl h4
       ·right
        rw[h1] at h4 ⊢
        simp only at h4 ⊢
        have e:iconv .i64 (v:Int)=(v:Int):=qL (by omega) (by omega)
        rw[e]
        omega
     rw[if_pos (by
      simp only[qyZ,bne_iff_ne,ne_eq,decide_eq_true_eq]
      rcases hbad with h1 | h1 | h1
      ·exact Or.inl (Or.inl h1)
      ·exact Or.inl (Or.inr h1)
      ·exact Or.inr h1)]
     rfl
    | some o =>
     obtain ⟨h1,h2⟩:=qnW hr
     have hok:=vY hr
     have e:iconv .i64 o.1=o.1:=qL (by omega) (by omega)
     rw[h1]
     simp only
     rw[e,if_neg (by simp;omega)]
     exact h25 o hok.1 h2 hok.2.2.2
   ·rw[if_neg (by simpa using hB)]
    have hO:pkO l B out.length p=some (0,p):=by unfold pkO;rw[if_pos (by omega)]
    rw[hO]
    exact h25 (0,p) (by simp) (by simp only;omega) hp
  ·rw[if_neg (by simp;omega),show n-out.length=0 from by omega]
   simp only[pkR]
theorem qmq {F:Nat}(hF:2000000≤F){N B least k m:Int}{b:qAE}(hb:U8s b):qdA F N B least k m b=some (prd N B least k m b):=by
 unfold qdA
 rw[qqy (by omega) hb]
 simp only[qxP]
 by_cases h:pcE N B least k m b=0
 ·rw[if_neg (by simp[h])]
  obtain ⟨n,l,rfl,hn,hh,hl,hlm,rfl,rfl⟩:=qqr hb h
  obtain ⟨k1,k2,k',rfl,k3,k4⟩:=qam hh
  have hbl:qas F (l.length:Int) (pk l)=some l:=by
   rw[qih (by omega) (qf2 hl) (by rw[qhg];omega) (by omega),qcC hl]
  rw[hbl]
  simp only[qxP]
  have hL:zM F (n:Int) B least (k':Int) (l.length:Int) (pk l) l F (0,0,[])=_:=qmp (F:=F) hF hl hlm hh hn F 0 [] (by simp;omega) (qyn _) (qyn _) (by simp)
  rw[hL]
  simp only[qyc,qy9]
  have hP:∀ r,pkR l B least k' n [] 0=some r→prd (n:Int) B least (k':Int) (l.length:Int) (pk l)=if r.2=l.length∧pkE r.1 B least (k':Int)=0∧pk (pkA r.1 B least k' r.1.length).1=pk l then (r.1,0) else ([],1):=by
   intro r hr
   unfold prd
   rw[if_neg (by simp[h])]
   simp only[qxU,qcC hl,hr]
  cases hr:pkR l B least k' n [] 0 with
  | none =>
   unfold prd
   rw[if_neg (by simp[h])]
   simp only[qxU,qcC hl,hr]
  | some r =>
   have hp:=hP r hr
   simp only
   unfold vz qcl
   rw[qkK hF]
   simp only[qxP]
   unfold rpw
   by_cases hE:pkE r.1 B least (k':Int)=0
   ·obtain ⟨g1,g2,g3⟩:=qe3 hE
    rw[qxU] at g3
    have hg:=qaQ.1 g1
    rw[if_neg (by simp[hE])]
    simp only[qxU]
    rw[if_neg (by simp[hE]),qkF (by simp only;omega) (by simp only;omega)]
    simp only[qxP]
    by_cases hq:(pkA r.1 B least k' r.1.length).1=l
    ·rw[decide_eq_true hq,if_neg (by simp)]
     obtain ⟨b1,_⟩:=qkC hl k1.1 k3 n 0 [] r hr (qyn _) (by simp[pkA])
     rw[qyc,qyI] at b1
     have hr2:=qjZ hg hh g3 [] r.1.length 0 (by omega)
     have hr3:pkR l B least k' n [] 0=some (r.1,(pkA r.1 B least k' r.1.length).1.length):=by
      rw[qyh,hq] at hr2
      rw[hq,← b1];exact hr2
     rw[hr] at hr3
     have e2:r.2=l.length:=by
      have:=qzp hr3
      rw[this,hq]
     rw[hp,if_pos ⟨e2,hE,by rw[hq]⟩]
    ·rw[decide_eq_false hq,if_pos (by simp),hp]
     by_cases hc:r.2=l.length∧pkE r.1 B least (k':Int)=0∧pk (pkA r.1 B least k' r.1.length).1=pk l
     ·exfalso
      rw[if_pos hc] at hp
      obtain ⟨x,hx,-,-,e4,e5⟩:=qqu hb (by rw[hp])
      rw[hp] at hx
      have e6:x=r.1:=by
       have:=congrArg Prod.fst hx
       exact this.symm
      subst e6
      rw[qxU] at e4 e5
      apply hq
      have e7:l.length=(pkA r.1 B least k' r.1.length).1.length:=by omega
      have e8:=qcC hl
      rw[e5,e7,qcC (qfh _)] at e8
      exact e8
     ·rw[if_neg hc]
   ·rw[if_pos hE,if_pos (by simpa using hE),if_pos (by trivial),hp,if_neg (fun hc=>hE hc.2.1)]
 ·rw[if_pos (by simpa using h)]
  unfold prd
  rw[if_pos h]
def vb:Nat→Int→qAE
 | 0,n=>[n]
 | j+1,n=>if n<128 then [n] else (n%128+128)::vb j (n/128)
theorem qhu (j:Nat){n:Int}(h:n<128):vb j n=[n]:=by cases j <;> simp[vb,h]
theorem qk7 (j:Nat){n:Int}(h:¬ n<128):vb (j+1) n=(n%128+128)::vb j (n/128):=by simp[vb,h]
theorem qva (j:Nat)(n:Int):1≤(vb j n).length:=by
 cases j with
 | zero=>simp[vb]
 | succ j=>unfold vb;split <;> simp
theorem qqQ:∀ (j:Nat) (n:Int),(vb j n).length≤j+1
 | 0,n=>by simp[vb]
 | j+1,n=>by
  unfold vb
  split
  ·simp
  ·have:=qqQ j (n/128);simp;omega
theorem qr9:∀ (j:Nat) (n:Int),0≤n→n<128^(j+1)→∀ x∈vb j n,0≤x∧x<256
 | 0,n,h0,h1,x,hx=>by simp[vb] at hx;subst hx;simp at h1;omega
 | j+1,n,h0,h1,x,hx=>by
  unfold vb at hx
  split at hx
  ·simp at hx;subst hx;omega
  ·rcases qx1.1 hx with rfl | hx
   ·omega
   ·refine qr9 j (n/128) (by omega) ?_ x hx
    rw[qzC] at h1
    omega
def vn (n:Int):qAE:=vb 9 n
theorem qvb {n:Int}:ior .u8 (iconv .u8 n) 128=n%128+128:=by
 have h1:iconv .u8 n=n%256:=qjE n
 rw[h1]
 by_cases h:n%256<128
 ·rw[qjV (m:=7) (by omega) (by simpa using h) (by decide) (by decide) rfl (by simp[IntKind.bits];omega)]
  omega
 ·have hx:∃ y:Nat,n%256=(y:Int)∧128≤y∧y<256:=⟨(n%256).toNat,by omega,by omega,by omega⟩
  obtain ⟨y,hy,h2,h3⟩:=hx
  have key:∀ y:Fin 256,128≤y.val→ior .u8 (y.val:Int) 128=(y.val:Int):=by decide +kernel
  have:=key ⟨y,h3⟩ h2
  simp only at this
  rw[hy,this]
  omega
theorem qwq (n:Int):ishr .u64 n 7=n/128:=by
 have:=qhz (k:=.u64) (a:=n) (m:=7) (by decide)
 simpa using this
theorem qu9 (F:Nat):∀ (j k:Nat) (out:qAE) (n:Int),0≤n→n<128^(j+1)→j<k→out.length+j+1≤70368744177664 →
  jl F k (out,n)=some (out++vb j n)
 | j,0,out,n,_,_,h,_=>by omega
 | j,k+1,out,n,h0,h1,hk,hl=>by
  show qdi F (jl F k) out n=_
  unfold qdi
  by_cases hn:128≤n
  ·cases j with
   | zero=>simp at h1;omega
   | succ j =>
    simp only[hn,decide_true,if_true]
    rw[qvb,qwq,qD (by simp;omega)]
    simp only[qxP]
    rw[qu9 F j k _ _ (by omega) (by rw[qzC] at h1;omega) (by omega) (by simp;omega),qk7 j (by omega)]
    simp
  ·simp only[hn,decide_false,qxZ,if_false]
   unfold qe2
   rw[qD (by simp;omega),qhu j (by omega)]
   have:iconv .u8 n=n:=qi4 h0 (by omega)
   simp[this]
theorem qj4 {F:Nat}(hF:10≤F){out:qAE}{n:Int}(h0:0≤n)(h1:n<18446744073709551616)(hl:out.length≤1000000):vo F out n=some (out++vn n):=by
 unfold vo
 exact qu9 F 9 F out n h0 (qAh h1 (by decide)) (by omega) (by omega)
theorem qpO:∀ (j F:Nat) (n:Int),0≤n→n<128^(j+1)→n<18446744073709551616→j<F→j≤100→zp F n=some (vb j n)
 | j,0,n,_,_,_,h,_=>by omega
 | j,F+1,n,h0,h1,hu,hk,hj=>by
  unfold zp
  simp only
  by_cases hn:n<128
  ·simp only[hn,decide_true,if_true]
   have:iconv .u8 n=n:=qi4 h0 (by omega)
   rw[qhu j hn,this]
  ·cases j with
   | zero=>simp at h1;omega
   | succ j =>
    simp only[hn,decide_false,qxZ,if_false]
    have hq:iquo .u64 n 128=n/128:=by
     unfold iquo
     rw[qyN h0,zg (by omega) (by omega)]
    have hr:iconv .u8 (iadd .u64 (irem n 128) 128)=n%128+128:=by
     unfold irem iadd iconv
     rw[qzd h0,zg (by omega) (by omega),qi4 (by omega) (by omega)]
    rw[hq,hr,qpO j F (n/128) (by omega) (by rw[qzC] at h1;omega) (by omega) (by omega) (by omega)]
    simp only[qxP]
    have:=qqQ j (n/128)
    rw[qD (by simp;omega),qk7 j hn]
    simp
theorem qem {F:Nat}(hF:10≤F){n:Int}(h0:0≤n)(h1:n<18446744073709551616):zp F n=some (vn n) :=
 qpO 9 F n h0 (qAh h1 (by decide)) h1 (by omega) (by omega)
def vrd:qAE→Nat→Int→Int×Nat×Int
 | [],_,_=>(0,0,7)
 | x::s,i,n=>if i=9∧1<x then (0,0,3) else if 0<i∧x=0 then (0,0,1) else
  if x<128 then (n+x%128*128^i,i+1,0) else vrd s (i+1) (n+x%128*128^i)
def vout (at':Nat)(r:Int×Nat×Int):Int×Int×Int:=if r.2.2=0 then (r.1,(at':Int)+(r.2.1:Int),0) else (0,0,r.2.2)
theorem qwr:∀ i:Fin 10,((128:Int)^i.val=2^(7*i.val)):=by decide
theorem qhv {i:Nat}(hi:i≤9):(128:Int)^i≤9223372036854775808∧1≤(128:Int)^i:=by
 have key:∀ i:Fin 10,(128:Int)^i.val≤9223372036854775808∧1≤(128:Int)^i.val:=by decide
 exact key ⟨i,by omega⟩
theorem qk8 {i:Nat}{x:Int}(hi:i≤9)(hx:0≤x)(h9:i=9→x≤1):0≤x%128*128^i∧x%128*128^i+128^i≤18446744073709551616:=by
 have hp:=qhv hi
 have h1:0≤x%128:=by omega
 have h2:0≤x%128*128^i:=Int.mul_nonneg h1 (by omega)
 refine ⟨h2,?_⟩
 by_cases h:i=9
 ·subst h
  have:=h9 rfl
  have h3:x=0∨x=1:=by omega
  rcases h3 with rfl | rfl <;> decide
 ·have h4:i≤8:=by omega
  have key:∀ i:Fin 9,(128:Int)^i.val≤72057594037927936:=by decide
  have h5:=key ⟨i,by omega⟩
  simp only at h5
  have h6:x%128*128^i≤127*128^i:=qy5 (by omega) (by omega)
  omega
theorem qs2 {x:Int}(h0:0≤x)(h1:x<256):iand .u8 x 127=x%128:=by
 have:=qgv (k:=.u8) (a:=x) (m:=7) h0 (by simpa[IntKind.bits] using h1) (by decide) rfl
 simpa using this
theorem qsa (F:Nat){b:qAE}(hb:U8s b)(hm:b.length≤4611686018427387904){at':Nat}(hat:at'≤b.length):∀ (k i:Nat) (n:Int),9<k+i→i≤9→at'+i≤b.length→0≤n→n<128^i →
  vG F b at' k (n,(i:Int))=some (vout at' (vrd (b.drop (at'+i)) i n))
 | 0,i,n,h,hi,_,_,_=>by omega
 | k+1,i,n,h,hi,hai,hn0,hn1=>by
  show qcz F b at' (vG F b at' k) n i=_
  unfold qcz
  have e1:iadd .i64 (at':Int) (i:Int)=((at'+i:Nat):Int):=by rw[qA (by omega) (by omega)];omega
  have e2:imul .i64 7 (i:Int)=((7*i:Nat):Int):=by rw[qkr (by omega) (by omega)];omega
  rw[e1,e2]
  by_cases hlt:at'+i<b.length
  ·have h1:¬ ((b.length:Int)≤((at'+i:Nat):Int)):=by omega
   have hg:b[at'+i]?=some b[at'+i]:=by simp[hlt]
   have hx:=hb b[at'+i] (qx9 hlt)
   rw[qxT hlt]
   simp only[h1,decide_false,qxZ,if_false,qs,hg,qxP]
   generalize b[at'+i]=x at hx
   unfold vrd
   by_cases c1:i=9∧1<x
   ·have:(((i:Int) == 9) && decide (1<x))=true:=by simp[c1.1,c1.2]
    rw[if_pos this,if_pos c1]
    rfl
   ·have hc1:(((i:Int) == 9) && decide (1<x))=false:=by
     rw[qz0];intro h;apply c1;simp at h;exact ⟨by omega,h.2⟩
    simp only[hc1,qxZ,if_false,c1]
    by_cases c2:0<i∧x=0
    ·have:(decide ((0:Int)<i) && (x == 0))=true:=by simp[c2.2];omega
     rw[if_pos this,if_pos c2]
     rfl
    ·have hc2:(decide ((0:Int)<i) && (x == 0))=false:=by
      rw[qz0];intro h;apply c2;simp at h;exact ⟨by omega,h.2⟩
     simp only[hc2,qxZ,if_false,c2]
     have hch:decide ((0:Int)≤((7*i:Nat):Int))=true:=decide_eq_true (by omega)
     simp only[hch,chk,if_true,lett]
     have hpl:=qk8 (x:=x) hi hx.1 (fun e=>by omega)
     have hpw:(128:Int)^i=2^(7*i):=qwr ⟨i,by omega⟩
     have hv:ior .u64 n (ishl .u64 (iconv .u64 (iand .u8 x 127)) ((7*i:Nat):Int))=n+x%128*128^i:=by
      rw[qs2 hx.1 hx.2,qiI (by omega)]
      have h1:iconv .u64 (x%128)=x%128:=zg (by omega) (by omega)
      rw[h1,← hpw,qzM hpl.1 (by omega)]
      refine qjV (m:=7*i) hn0 (by rw[← hpw];exact hn1) hpl.1 ?_ rfl ?_
      ·rw[← hpw];exact Int.mul_emod_left _ _
      ·simp only[IntKind.bits]
       have:(2:Int)^64=18446744073709551616:=by decide
       omega
     rw[hv]
     by_cases c3:x<128
     ·simp only[c3,decide_true,if_true]
      have e3:iadd .i64 ((at'+i:Nat):Int) 1=((at'+(i+1):Nat):Int):=by rw[qA (by omega) (by omega)];omega
      rw[e3]
      unfold vout
      simp
     ·simp only[c3,decide_false,qxZ,if_false]
      have hi9:i≠9:=by intro e;apply c1;exact ⟨e,by omega⟩
      rw[qA (by omega) (by omega),show (i:Int)+1=((i+1:Nat):Int) from by omega,
       qsa F hb hm hat k (i+1) _ (by omega) (by omega) (by omega) (by omega) (by rw[qzC];have:x%128*128^i≤127*128^i:=qy5 (by omega) (by omega);omega)]
      rw[show at'+(i+1)=at'+i+1 from by omega]
  ·have h1:((b.length:Int)≤((at'+i:Nat):Int)):=by omega
   simp only[h1,decide_true,if_true]
   rw[qxW (by omega)]
   rfl
theorem qpP {F:Nat}(hF:10≤F){b:qAE}(hb:U8s b)(hm:b.length≤4611686018427387904){at':Nat}(hat:at'≤b.length):qeK F b at'=some (vout at' (vrd (b.drop at') 0 0)):=by
 unfold qeK
 have:=qsa F hb hm hat F 0 0 (by omega) (by omega) (by omega) (by omega) (by decide)
 simpa using this
theorem qpQ (F:Nat){b:qAE}(hb:U8s b)(hm:b.length≤4611686018427387904){at':Nat}(hat:at'≤b.length):∀ (k i:Nat) (n:Int),9<k+i→i≤9→at'+i≤b.length→0≤n→n<128^i →
  yO F b at' k (n,128^i,((at'+i:Nat):Int))=some (vout at' (vrd (b.drop (at'+i)) i n))
 | 0,i,n,h,hi,_,_,_=>by omega
 | k+1,i,n,h,hi,hai,hn0,hn1=>by
  show qbp F b at' (yO F b at' k) n (128^i) ((at'+i:Nat):Int)=_
  unfold qbp
  by_cases hlt:at'+i<b.length
  ·have h1:(((at'+i:Nat):Int)<(b.length:Int)):=by omega
   have hg:b[at'+i]?=some b[at'+i]:=by simp[hlt]
   have hx:=hb b[at'+i] (qx9 hlt)
   have e2:isub .i64 ((at'+i:Nat):Int) (at':Int)=(i:Int):=by rw[qG (by omega) (by omega)];omega
   rw[qxT hlt]
   simp only[h1,decide_true,if_true,qs,hg,qxP,e2]
   generalize b[at'+i]=x at hx
   have hcx:iconv .u64 x=x:=zg hx.1 (by omega)
   rw[hcx]
   unfold vrd
   by_cases c1:i=9∧1<x
   ·have:(((i:Int) == 9) && decide (1<x))=true:=by simp[c1.1,c1.2]
    rw[if_pos this,if_pos c1]
    rfl
   ·have hc1:(((i:Int) == 9) && decide (1<x))=false:=by
     rw[qz0];intro h;apply c1;simp at h;exact ⟨by omega,h.2⟩
    simp only[hc1,qxZ,if_false,c1]
    by_cases c2:0<i∧x=0
    ·have:(decide ((at':Int)<((at'+i:Nat):Int)) && (x == 0))=true:=by simp[c2.2];omega
     rw[if_pos this,if_pos c2]
     rfl
    ·have hc2:(decide ((at':Int)<((at'+i:Nat):Int)) && (x == 0))=false:=by
      rw[qz0];intro h;apply c2;simp at h;exact ⟨by omega,h.2⟩
     simp only[hc2,qxZ,if_false,c2,lett]
     have hpl:=qk8 (x:=x) hi hx.1 (fun e=>by omega)
     have hp9:=qhv hi
     have hv:iadd .u64 n (imul .u64 (irem x 128) (128^i))=n+x%128*128^i:=by
      unfold irem imul iadd
      rw[qzd hx.1,zg hpl.1 (by omega),zg (by omega) (by omega)]
     rw[hv]
     by_cases c3:x<128
     ·simp only[c3,decide_true,if_true]
      have e3:iadd .i64 ((at'+i:Nat):Int) 1=((at'+(i+1):Nat):Int):=by rw[qA (by omega) (by omega)];omega
      rw[e3]
      unfold vout
      simp
     ·simp only[c3,decide_false,qxZ,if_false]
      have hi9:i≠9:=by intro e;apply c1;exact ⟨e,by omega⟩
      have key:∀ i:Fin 9,imul .u64 ((128:Int)^i.val) 128=128^(i.val+1):=by decide
      have e4:=key ⟨i,by omega⟩
      simp only at e4
      rw[qA (by omega) (by omega),show ((at'+i:Nat):Int)+1=((at'+(i+1):Nat):Int) from by omega,e4,
       qpQ F hb hm hat k (i+1) _ (by omega) (by omega) (by omega) (by omega) (by rw[qzC];have:x%128*128^i≤127*128^i:=qy5 (by omega) (by omega);omega)]
      rw[show at'+(i+1)=at'+i+1 from by omega]
  ·have h1:¬ (((at'+i:Nat):Int)<(b.length:Int)):=by omega
   simp only[h1,decide_false,qxZ,if_false]
   rw[qxW (by omega)]
   rfl
theorem qmO {F:Nat}(hF:10≤F){b:qAE}(hb:U8s b)(hm:b.length≤4611686018427387904){at':Nat}(hat:at'≤b.length):qdG F b at'=some (vout at' (vrd (b.drop at') 0 0)):=by
 unfold qdG
 have:=qpQ F hb hm hat F 0 0 (by omega) (by omega) (by omega) (by omega) (by decide)
 simpa using this
theorem qwH:∀ (j i:Nat) (m n:Int) (t:qAE),i+j=9→0≤m→m*128^i<18446744073709551616→(0<i→m≠0) →
  vrd (vb j m++t) i n=(n+m*128^i,i+(vb j m).length,0)
 | j,i,m,n,t,hij,h0,hm,hz=>by
  by_cases hs:m<128
  ·rw[qhu j hs]
   simp only[qyS,qx6,vrd,qxY,qyc]
   have h9:¬ (i=9∧1<m):=by
    rintro ⟨rfl,h⟩
    have:(128:Int)^9=9223372036854775808:=by decide
    rw[this] at hm;omega
   have h2:¬ (0<i∧m=0):=fun h=>hz h.1 h.2
   rw[if_neg h9,if_neg h2,if_pos hs,qzM h0 hs]
  ·cases j with
   | zero =>
    have:i=9:=by omega
    subst this
    have h9:(128:Int)^9=9223372036854775808:=by decide
    rw[h9] at hm;omega
   | succ j =>
    rw[qk7 j hs]
    have hi:i≤8:=by omega
    simp only[qyS,vrd,qxY]
    have h9:¬ (i=9∧1<m%128+128):=by rintro ⟨rfl,h⟩;omega
    have h2:¬ (0<i∧m%128+128=0):=by rintro ⟨_,h⟩;omega
    have h3:¬ (m%128+128<128):=by omega
    rw[if_neg h9,if_neg h2,if_neg h3]
    have e1:(m%128+128)%128=m%128:=by omega
    have e2:m%128*128^i+m/128*128^(i+1)=m*128^i:=by
     rw[qzC,qz7 ((128:Int)^i) 128,← Int.mul_assoc,← qAC]
     congr 1
     omega
    have hp:=qhv (i:=i) (by omega)
    have e3:0≤m%128*128^i:=Int.mul_nonneg (by omega) (by omega)
    rw[qwH j (i+1) (m/128) _ t (by omega) (by omega) (by omega) (by omega),e1,← e2]
    simp only[qzs,and_true]
    exact ⟨by omega,by omega⟩
theorem qwI {x:Int}(h0:0≤x)(h1:x<18446744073709551616)(t:qAE):vrd (vn x++t) 0 0=(x,(vn x).length,0):=by
 have:=qwH 9 0 x 0 t (by omega) h0 (by simpa using h1) (by omega)
 simpa[vn] using this
theorem qwG:∀ (s:qAE) (i:Nat) (n v:Int) (c:Nat),U8s s→i≤9→vrd s i n=(v,c,0) →
  ∃ m,0≤m∧v=n+m*128^i∧m*128^i<18446744073709551616∧(0<i→m≠0)∧c=i+(vb (9-i) m).length∧s=vb (9-i) m++s.drop (c-i)
 | [],i,n,v,c,_,_,h=>by simp[vrd] at h
 | x::s,i,n,v,c,hu,hi,h=>by
  have hx:=hu x (by simp)
  have hp:=qhv hi
  unfold vrd at h
  by_cases c1:i=9∧1<x
  ·rw[if_pos c1] at h;simp at h
  ·rw[if_neg c1] at h
   by_cases c2:0<i∧x=0
   ·rw[if_pos c2] at h;simp at h
   ·rw[if_neg c2] at h
    by_cases c3:x<128
    ·rw[if_pos c3] at h
     simp only[qzs,and_true] at h
     obtain ⟨rfl,rfl⟩:=h
     have hpl:=qk8 (x:=x) hi hx.1 (fun e=>by omega)
     have hxe:x%128=x:=qzM hx.1 c3
     refine ⟨x,hx.1,by rw[hxe],by rw[hxe] at hpl;omega,fun h0 hz=>c2 ⟨h0,hz⟩,by rw[qhu _ c3];simp,?_⟩
     rw[qhu _ c3,show i+1-i=1 from by omega]
     simp
    ·rw[if_neg c3] at h
     have hi8:i≤8:=by omega
     obtain ⟨m,h0,hv,hm,hz,hc,hs⟩:=qwG s (i+1) _ v c (fun y hy=>hu y (qx7 _ hy)) (by omega) h
     have hz':=hz (by omega)
     have hj:9-i=(9-(i+1))+1:=by omega
     have e2:x%128*128^i+m*128^(i+1)=(x%128+128*m)*128^i:=by
      rw[qzC,qAC,qz7 128 m,Int.mul_assoc m,qz7 128 ((128:Int)^i)]
     refine ⟨x%128+128*m,by omega,?_,?_,fun _=>by omega,?_,?_⟩
     ·rw[← e2];omega
     ·rw[← e2]
      have:m*128^(i+1)≤18446744073709551616-128^(i+1):=by
       have hd:(18446744073709551616:Int)=18446744073709551616/128^(i+1)*128^(i+1):=by
        have key:∀ i:Fin 9,(18446744073709551616:Int)=18446744073709551616/128^(i.val+1)*128^(i.val+1):=by decide
        exact key ⟨i,by omega⟩
       generalize (18446744073709551616:Int)/128^(i+1)=q at hd
       have hp1:=(qhv (i:=i+1) (by omega)).2
       rw[hd] at hm ⊢
       have hmq:m<q:=Int.lt_of_mul_lt_mul_right hm (by omega)
       have:(m+1)*128^(i+1)≤q*128^(i+1):=qy5 (by omega) (by omega)
       rw[qAC] at this
       omega
      have hx2:x%128*128^i≤127*128^i:=qy5 (by omega) (by omega)
      rw[qzC] at this ⊢
      omega
     ·rw[hj,qk7 _ (by omega),show (x%128+128*m)/128=m from by omega]
      simp only[qxY]
      omega
     ·rw[hj,qk7 _ (by omega),show (x%128+128*m)/128=m from by omega,show (x%128+128*m)%128+128=x from by omega]
      rw[show c-i=(c-(i+1))+1 from by omega,List.drop_succ_cons,qyS,← hs]
theorem qnV {s:qAE}{v:Int}{c:Nat}(hu:U8s s)(h:vrd s 0 0=(v,c,0)):0≤v∧v<18446744073709551616∧c=(vn v).length∧s=vn v++s.drop c:=by
 obtain ⟨m,h0,hv,hm,_,hc,hs⟩:=qwG s 0 0 v c hu (by omega) h
 simp at hv hm hc hs
 subst hv
 exact ⟨h0,hm,hc,hs⟩
theorem qug {s:qAE}(hu:U8s s)(h:(vrd s 0 0).2.2=0):1≤(vrd s 0 0).2.1∧(vrd s 0 0).2.1≤s.length:=by
 have hr:vrd s 0 0=((vrd s 0 0).1,(vrd s 0 0).2.1,0):=qAn rfl (qAn rfl h)
 obtain ⟨_,_,hc,hs⟩:=qnV hu hr
 have hp:1≤(vn (vrd s 0 0).1).length:=qva 9 (vrd s 0 0).1
 have hl:s.length=(vn (vrd s 0 0).1++s.drop (vrd s 0 0).2.1).length:=by rw[← hs]
 rw[qxQ] at hl
 omega
theorem U8s.vdrop {s:qAE}(h:U8s s)(n:Nat):U8s (s.drop n):=fun x hx=>h x (List.mem_of_mem_drop hx)
theorem qjD {x:Int}(h0:0≤x)(h1:x<18446744073709551616):U8s (vn x):=fun y hy=>qr9 9 x h0 (qAh h1 (by decide)) y hy
theorem qcH (n:Int):(vn n).length≤10:=qqQ 9 n
theorem qxm (n:Int):1≤(vn n).length:=qva 9 n
theorem qof:∀ l:qAE,(l.flatMap vn).length≤10*l.length
 | []=>by simp
 | x::t=>by
  rw[qx4,qxQ,qxY]
  have h1:=qcH x
  have h2:=qof t
  omega
def gfT:Int→List (qAE)→qAE
 | _,[]=>[]
 | i,l::g=>vn l.length++((gp false i l).flatMap vn++gfT (i+1) g)
theorem qfE (i:Int)(l:qAE)(g:List (qAE)):gfT i (l::g)=vn l.length++((gp false i l).flatMap vn++gfT (i+1) g):=rfl
def gfile (g:List (qAE)):qAE:=[76,87,1]++(vn g.length++gfT 0 g)
theorem qkm:∀ {b:Bool} {a q:Int} {l:qAE},Nd a→Ris q l→(b=true→Ris a l)→∀ x∈gp b a l,0≤x∧x≤2097152
 | _,_,_,[],_,_,_,x,hx=>by simp[gp] at hx
 | b,a,q,n::l,ha,hr,hb,x,hx=>by
  unfold gp at hx
  rcases qx1.1 hx with rfl | hx
  ·obtain ⟨a1,a2⟩:=ha
   obtain ⟨⟨n1,n2⟩,n3,n4⟩:=hr
   cases b with
   | true=>have:=(hb rfl).2.1;simp only[if_true];omega
   | false=>simp only[qxZ,if_false];unfold foldOf;split <;> omega
  ·exact qkm (b:=true) hr.1 hr.2.2 (fun _=>hr.2.2) x hx
theorem qi2 {n:Nat}(h:n≤1000000):iconv .u64 (n:Int)=(n:Int):=by
 have:iconv .u64 (n:Int)=(n:Int)%18446744073709551616:=qaT _
 rw[this];omega
theorem yI {i:Nat}(h:i≤1000000):iadd .i64 (i:Int) 1=((i+1:Nat):Int):=by
 have:iadd .i64 (i:Int) 1=((i:Int)+1):=qL (by omega) (by omega)
 rw[this];omega
theorem qwz {F:Nat}(hF:20000≤F){rec19:(qAE×Int)→Option (qAE)}{i:Int}{zs:qAE}(hz:N64 zs)(hm:zs.length≤300):∀ (k j:Nat) (o:qAE),zs.length<k+j→j≤zs.length→o.length≤100000+10*j →
  yi F rec19 i zs k (o,(j:Int))=jY F rec19 i (o++(zs.drop j).flatMap vn)
 | 0,j,o,h,h1,h2=>by omega
 | k+1,j,o,h,h1,h2=>by
  show jX F rec19 i zs (yi F rec19 i zs k) o (j:Int)=_
  unfold jX
  by_cases hlt:j<zs.length
  ·rw[if_pos (by simp;omega),qs,qxR hlt,qxT hlt]
   have hx:=hz _ (qx9 hlt)
   simp only[qxP]
   rw[qj4 (by omega) hx.1 hx.2 (by omega)]
   simp only[qxP]
   have:=qcH zs[j]
   rw[yI (by omega),qwz hF hz hm k (j+1) _ (by omega) (by omega) (by rw[qxQ];omega),qx4,qxS]
  ·rw[if_neg (by simp;omega),qxW (by omega),List.flatMap_nil,qyh]
theorem qja:∀ {g:List (qAE)} {i:Nat} (h:i<g.length),gtot (g.drop i)=(g[i]).length+gtot (g.drop (i+1))
 | g,i,h=>by rw[qxT h];rfl
theorem qxx {F:Nat}(hF:20000≤F){g:List (qAE)}(hg:Gr g):∀ (k i:Nat) (o:qAE),g.length<k+i→i≤g.length→o.length+10*((g.drop i).length+gtot (g.drop i))≤50000 →
  zb F g k (o,(i:Int))=some (o++gfT i (g.drop i))
 | 0,i,o,h,h1,h2=>by omega
 | k+1,i,o,h,h1,h2=>by
  show jW F g (zb F g k) o (i:Int)=_
  unfold jW
  have hgl:=hg.1
  by_cases hlt:i<g.length
  ·rw[if_pos (by simp;omega),qs,qxR hlt]
   have hk:=zn.1 (qkn hg (qx9 hlt))
   have hrow:=qko hg (qx9 hlt)
   have hd:=qja hlt
   have hdc:=qxT hlt
   generalize g[i]=L at hk hrow hd hdc ⊢
   have hn:Nd (i:Int):=⟨by omega,by omega⟩
   have hdl:(g.drop i).length=(g.drop (i+1)).length+1:=by rw[hdc,qxY]
   have ho:o.length≤50000:=by omega
   simp only[qxP]
   rw[qi2 (by omega),qj4 (by omega) (by omega) (by omega) (by omega)]
   simp only[qxP]
   rw[qrr hF hk.1 hn hk.2]
   simp only[qxP]
   have h3:=qcH (L.length:Int)
   have h4:=qof (gp false (i:Int) L)
   rw[qdX] at h4
   have h5:∀ x∈gp false (i:Int) L,0≤x∧x<18446744073709551616:=fun x hx=>by
    have:=qkm hn hk.2 (fun h=>by cases h) x hx;omega
   have h6:(gp false (i:Int) L).length=L.length:=qdX _ _ _
   have h7:(o++vn (L.length:Int)).length≤100000:=by rw[qxQ];omega
   have:=qwz (rec19:=zb F g k) (i:=(i:Int)) hF h5 (by omega) F 0 (o++vn (L.length:Int)) (by omega) (by omega) (by omega)
   rw[show ((0:Nat):Int)=0 from rfl] at this
   rw[this,qx8]
   unfold jY
   have h8:(o++vn (L.length:Int)++(gp false (i:Int) L).flatMap vn).length+10*((g.drop (i+1)).length+gtot (g.drop (i+1)))≤50000:=by
    rw[qxQ,qxQ];omega
   rw[yI (by omega),qxx hF hg k (i+1) _ (by omega) (by omega) h8,hdc,qfE]
   simp only[qxS]
   rw[show ((i:Int)+1)=((i+1:Nat):Int) from by omega]
  ·rw[if_neg (by simp;omega),qxW (by omega)]
   unfold qcG gfT
   rw[qyh]
theorem qtz {F:Nat}(hF:20000≤F){g:List (qAE)}(hg:Gr g):qda F g=some (gfile g):=by
 unfold qda
 rw[qD (by decide)]
 simp only[qxP]
 have hgl:=hg.1
 have hgt:=hg.2.2
 have h3:=qcH (g.length:Int)
 rw[qi2 (by omega),qj4 (by omega) (by omega) (by omega) (by decide)]
 simp only[qxP]
 unfold vM
 have:=qxx hF hg F 0 ([76,87]++[1]++vn (g.length:Int)) (by omega) (by omega) (by
  simp only[qxQ,qx8,qxY,qyc];omega)
 rw[show ((0:Nat):Int)=0 from rfl] at this
 rw[this,qx8]
 unfold gfile
 simp only[qxS]
 rfl
def bfile (g:List (qAE))(B least k:Int):qAE :=
 [76,87,2]++(vn g.length++(vn B++(vn least++(vn k++(vn (pkA g B least k.toNat g.length).1.length++pk (pkA g B least k.toNat g.length).1)))))
theorem qxL {F:Nat}(hF:20000≤F){a b c d e:Int}{t:qAE}{x9:Int×Int×Int×Int×Int×qAE×Int}(h1:x9.1=a)(h2:x9.2.2.2.2.1=e)(h3:x9.2.2.2.2.2.1=t)(ha:0≤a∧a≤1000000)(hb:0≤b∧b≤1000000)(hc:0≤c∧c≤1000000)(hd:0≤d∧d≤1000000)(he:0≤e∧e≤1000000)(ht:t.length≤1000000) :
  zR F b c d x9 F ([76,87,2],0)=some ([76,87,2]++(vn a++(vn b++(vn c++(vn d++(vn e++t))))),0):=by
 obtain ⟨G,rfl⟩:∃ G,F=G+6:=⟨F-6,by omega⟩
 have u:∀ x:Int,0≤x∧x≤1000000→iconv .u64 x=x:=fun x hx=>by
  have:iconv .u64 x=x%18446744073709551616:=qaT _
  rw[this];omega
 have st:∀ (k:Nat) (o:qAE) (i:Nat) (x:Int),i<5→([a,b,c,d,e]:qAE)[i]?=some x→0≤x∧x≤1000000→o.length≤1000 →
   zR (G+6) b c d x9 (k+1) (o,(i:Int))=zR (G+6) b c d x9 k (o++vn x,((i+1:Nat):Int)):=fun k o i x hi hx hx2 ho=>by
  show yB (G+6) b c d x9 (zR (G+6) b c d x9 k) o (i:Int)=_
  unfold yB
  rw[h1,h2,if_pos (by simp;omega),qs,hx]
  simp only[qxP]
  rw[u x hx2,qj4 (by omega) hx2.1 (by omega) (by omega)]
  simp only[qxP]
  rw[yI (by omega)]
 have v1:=qcH a;have v2:=qcH b;have v3:=qcH c;have v4:=qcH d;have v5:=qcH e
 have s0:=st (G+5) [76,87,2] 0 a (by omega) rfl ha (by decide)
 rw[show ((0:Nat):Int)=0 from rfl] at s0
 rw[show G+6=(G+5)+1 from rfl]
 rw[s0,st (G+4) _ 1 b (by omega) rfl hb (by simp;omega),st (G+3) _ 2 c (by omega) rfl hc (by simp;omega),st (G+2) _ 3 d (by omega) rfl hd (by simp;omega),st (G+1) _ 4 e (by omega) rfl he (by simp;omega)]
 show yB (G+6) b c d x9 (zR (G+6) b c d x9 G) _ _=_
 unfold yB
 rw[if_neg (by simp)]
 unfold qdn
 rw[h3,qD (by simp;omega)]
 simp only[qxP,qxS]
theorem qta {F:Nat}(hF:2000000≤F){g:List (qAE)}{B least k:Int}:qc9 F g B least k=some (if pkE g B least k≠0 then ([],pkE g B least k) else (bfile g B least k,0)):=by
 unfold qc9
 rw[qml hF]
 simp only[qxP]
 by_cases h:pkE g B least k=0
 ·obtain ⟨g1,g2,g3⟩:=qe3 h
  obtain ⟨k1,k2,k',rfl,k3,k4⟩:=qam g2
  have hg:=qaQ.1 g1
  have hgl:=hg.1
  have e:pwr g B least (k':Int)=((g.length:Int),B,least,(k':Int),((pkA g B least (k':Int).toNat g.length).1.length:Int),pk (pkA g B least (k':Int).toNat g.length).1,0):=by
   unfold pwr;rw[if_neg (fun hh=>hh h)]
  rw[e,if_neg (by simp),if_neg (fun hh=>hh h),qD (by decide)]
  simp only[qxP]
  rw[show ([76,87]++[2]:qAE)=[76,87,2] from rfl,qxL (a:=(g.length:Int)) (e:=((pkA g B least (k':Int).toNat g.length).1.length:Int)) (by omega) rfl rfl rfl ⟨by omega,by omega⟩ ⟨by omega,by omega⟩ ⟨by omega,by omega⟩ ⟨by omega,by omega⟩ ⟨by omega,by omega⟩ (by rw[qhg];omega)]
  rfl
 ·have e:pwr g B least k=(0,0,0,0,0,[],pkE g B least k):=by unfold pwr;rw[if_pos h]
  rw[e,if_pos (by simpa using h),if_pos h]
def svE (g:List (qAE))(kind B least k:Int):Int :=
 if gchk g≠0 then gchk g else if kind=1 then (if 4096<(gfile g).length then 2 else 0) else if kind=2 then (if pkE g B least k≠0 then pkE g B least k else if 4096<(bfile g B least k).length then 2 else 0) else 3
def file (g:List (qAE))(kind B least k:Int):qAE:=if kind=1 then gfile g else bfile g B least k
def sv (g:List (qAE))(kind B least k:Int):qAE×Int:=if svE g kind B least k≠0 then ([],svE g kind B least k) else (file g kind B least k,0)
theorem qn1 {F:Nat}{o:qAE}{e:Int}(h:e≠0):k6 F o e=some ([],e):=by
 unfold k6 qbX
 rw[if_neg (by simp[h]),if_pos (by simpa using h)]
theorem qrZ {F:Nat}{o:qAE}:k6 F o 0=some (if 4096<o.length then ([],2) else (o,0)):=by
 unfold k6 qbX
 by_cases h:4096<o.length
 ·rw[if_pos (by simp;omega),if_pos h];rfl
 ·rw[if_neg (by simp;omega),if_neg h];rfl
theorem qn0 {F:Nat}(hF:2000000≤F){g:List (qAE)}{kind B least k:Int}:qdv F g kind B least k=some (sv g kind B least k):=by
 unfold qdv
 rw[qgh (by omega)]
 simp only[qxP]
 unfold sv
 by_cases h:gchk g=0
 ·rw[if_neg (show ¬ ((gchk g != 0)=true) by simp[h])]
  by_cases h1:kind=1
  ·have e:svE g kind B least k=if 4096<(gfile g).length then 2 else 0:=by unfold svE;rw[if_neg (fun hh=>hh h),if_pos h1]
   rw[e,if_pos (by simpa using h1),qtz (by omega) (qaQ.1 h),h]
   simp only[qxP]
   rw[qrZ,show file g kind B least k=gfile g from if_pos h1]
   by_cases h4:4096<(gfile g).length
   ·rw[if_pos h4,if_pos h4,if_pos (by decide)]
   ·rw[if_neg h4,if_neg h4,if_neg (by decide)]
  ·rw[if_neg (by simpa using h1)]
   by_cases h2:kind=2
   ·rw[if_pos (by simpa using h2),qta hF]
    simp only[qxP]
    by_cases h3:pkE g B least k=0
    ·have e:svE g kind B least k=if 4096<(bfile g B least k).length then 2 else 0:=by unfold svE;rw[if_neg (fun hh=>hh h),if_neg h1,if_pos h2,if_neg (fun hh=>hh h3)]
     rw[if_neg (fun hh=>hh h3),qrZ,e,show file g kind B least k=bfile g B least k from if_neg h1]
     by_cases h4:4096<(bfile g B least k).length
     ·rw[if_pos h4,if_pos h4,if_pos (by decide)]
     ·rw[if_neg h4,if_neg h4,if_neg (by decide)]
    ·have e:svE g kind B least k=pkE g B least k:=by unfold svE;rw[if_neg (fun hh=>hh h),if_neg h1,if_pos h2,if_pos h3]
     rw[if_pos h3,qn1 h3,e,if_pos h3]
   ·have e:svE g kind B least k=3:=by unfold svE;rw[if_neg (fun hh=>hh h),if_neg h1,if_neg h2]
    rw[if_neg (by simpa using h2),qn1 (by decide),e,if_pos (by decide)]
 ·have e:svE g kind B least k=gchk g:=by unfold svE;rw[if_pos h]
  rw[if_pos (by simpa using h),qn1 h,e,if_pos h]
def pnum (b:qAE)(p:Nat)(most:Int):Option (Int×Nat) :=
 if (vrd (b.drop p) 0 0).2.2=0∧(vrd (b.drop p) 0 0).1≤most then some ((vrd (b.drop p) 0 0).1,p+(vrd (b.drop p) 0 0).2.1) else none
theorem j1 {b:qAE}(hb:U8s b){p:Nat}(hp:p≤b.length){most:Int}{x:Int×Nat}(h:pnum b p most=some x) :
  0≤x.1∧x.1≤most∧x.1<18446744073709551616∧x.2≤b.length∧b.drop p=vn x.1++b.drop x.2∧x.2=p+(vn x.1).length:=by
 unfold pnum at h
 split at h
 ·rename_i hc
  simp only[qx2] at h
  have hu:U8s (b.drop p):=hb.vdrop p
  have hr:vrd (b.drop p) 0 0=((vrd (b.drop p) 0 0).1,(vrd (b.drop p) 0 0).2.1,0):=qAn rfl (qAn rfl hc.1)
  obtain ⟨h0,h1,h2,h3⟩:=qnV hu hr
  have h4:=qug hu hc.1
  rw[qya] at h4
  subst h
  refine ⟨h0,hc.2,h1,by simp only;omega,?_,by simp only;omega⟩
  rw[qzB] at h3
  exact h3
 ·cases h
theorem qf3 {b:qAE}{p:Nat}{x most:Int}{t:qAE}(h:b.drop p=vn x++t)(h0:0≤x)(h1:x≤most)(h2:most<18446744073709551616) :
  pnum b p most=some (x,p+(vn x).length)∧b.drop (p+(vn x).length)=t:=by
 have hr:=qwI h0 (by omega:x<18446744073709551616) t
 constructor
 ·unfold pnum
  rw[h,hr,if_pos ⟨rfl,h1⟩]
 ·rw[← qzB,h,List.drop_left]
def nst (b:qAE)(p s:Nat)(most:Int):Int×Int×Int×Bool:=match pnum b p most with | none=>(0,(p:Int),(s:Int),true) | some x=>(x.1,(x.2:Int),((s+1:Nat):Int),false)
theorem qw3 {b:qAE}{p s:Nat}{most v e:Int}{c:Nat}(hr:vrd (b.drop p) 0 0=(v,c,e)):nst b p s most=if e=0∧v≤most then (v,((p+c:Nat):Int),((s+1:Nat):Int),false) else (0,(p:Int),(s:Int),true):=by
 unfold nst pnum
 rw[hr]
 by_cases h:e=0∧v≤most
 ·rw[if_pos h,if_pos h]
 ·rw[if_neg h,if_neg h]
theorem qnL {F:Nat}(hF:10≤F){b:qAE}(hb:U8s b)(hm:b.length≤4096){p s:Nat}(hp:p≤b.length)(hs:s≤100000){most:Int}(h0:0≤most)(h1:most≤1000000000) :
  qJ F b (p:Int) (s:Int) false most=some (nst b p s most):=by
 unfold qJ
 rw[qpP hF hb (by omega) hp]
 simp only[qxP]
 have hmo:iconv .u64 most=most:=by
  have:iconv .u64 most=most%18446744073709551616:=qaT _
  rw[this];omega
 obtain ⟨⟨v,c,e⟩,hr⟩:∃ r,vrd (b.drop p) 0 0=r:=⟨_,rfl⟩
 rw[qw3 hr,hr,hmo]
 unfold vout
 by_cases h2:e=0
 ·subst h2
  have h4:=(qnV (hb.vdrop p) hr).1
  simp only[if_pos]
  by_cases h3:v≤most
  ·have hd:decide (most<v)=false:=by simp;omega
   have hi:iconv .i64 v=v:=qL (by omega) (by omega)
   simp only[hd,hi,yI (show s≤1000000 by omega),h3]
   simp
  ·have hd:decide (most<v)=true:=by simp;omega
   simp only[hd,h3]
   simp
 ·have hd:((e:Int) != 0)=true:=by simpa using h2
  simp only[h2,if_false,hd]
  simp
theorem qnK {F:Nat}(hF:10≤F){b:qAE}(hb:U8s b)(hm:b.length≤4096){p s:Nat}(hp:p≤b.length){most:Int} :
  qJ F b (p:Int) (s:Int) true most=some (0,(p:Int),(s:Int),true):=by
 unfold qJ
 rw[qpP hF hb (by omega) hp]
 simp only[qxP]
 rw[if_pos (by simp)]
 simp
def pnums (b:qAE)(most:Int):Nat→Nat→qAE→Option (qAE×Nat)
 | 0,p,acc=>some (acc,p)
 | m+1,p,acc=>match pnum b p most with | none=>none | some x=>pnums b most m x.2 (acc++[x.1])
def plist (b:qAE)(p node:Nat)(n:Int):Option (qAE×Nat×Nat) :=
 match pnum b p n with
 | none=>none
 | some x=>match pnums b 2097152 x.1.toNat x.2 [] with
  | none=>none
  | some y=>if (gb y.1 (node:Int)).2=0 then some ((gb y.1 (node:Int)).1,y.2,1+x.1.toNat) else none
theorem qnY {F:Nat}(hF:10≤F){b:qAE}(hb:U8s b)(hm:b.length≤4096){p s:Nat}(hp:p≤b.length){node:Int}{x:Int×Int×Int×Bool}(hx:x.1≤100):∀ (k i:Nat) (acc:qAE),x.1.toNat<k+i→(i:Int)≤x.1→N64 acc→acc.length≤1000+i →
  ∃ gs,N64 gs∧za F b node x k (acc,(i:Int),(p:Int),(s:Int),true)=zW F node gs (p:Int) (s:Int) true
 | 0,i,acc,h,h1,_,_=>by omega
 | k+1,i,acc,h,h1,ha,hl=>by
  show ∃ gs,N64 gs∧kF F b node x (za F b node x k) acc (i:Int) (p:Int) (s:Int) true=_
  unfold kF
  by_cases hlt:(i:Int)<x.1
  ·rw[if_pos (by simpa using hlt),qnK hF hb hm hp]
   simp only[qxP]
   rw[qD (by simp;omega)]
   simp only[qxP]
   rw[yI (by omega)]
   refine qnY hF hb hm hp hx k (i+1) _ (by omega) (by omega) (fun y hy=>?_) (by simp;omega)
   rcases qxV.1 hy with hy | hy
   ·exact ha y hy
   ·rw[qyl] at hy;subst hy;decide
  ·rw[if_neg (by simpa using hlt)]
   exact ⟨acc,ha,rfl⟩
theorem qwK {F:Nat}(hF:10≤F){b:qAE}(hb:U8s b)(hm:b.length≤4096){node:Int}{x:Int×Int×Int×Bool}(hx:x.1≤100):∀ (k i p s:Nat) (acc:qAE),x.1.toNat<k+i→(i:Int)≤x.1→p≤b.length→s≤50000+i→N64 acc→acc.length=i →
  match pnums b 2097152 (x.1.toNat-i) p acc with
  | some y=>y.2≤b.length∧N64 y.1∧za F b node x k (acc,(i:Int),(p:Int),(s:Int),false)=zW F node y.1 (y.2:Int) ((s+(x.1.toNat-i):Nat):Int) false
  | none=>∃ gs a q,N64 gs∧a≤b.length∧q≤50100∧za F b node x k (acc,(i:Int),(p:Int),(s:Int),false)=zW F node gs ((a:Nat):Int) ((q:Nat):Int) true
 | 0,i,p,s,acc,h,h1,_,_,_,_=>by omega
 | k+1,i,p,s,acc,h,h1,hp,hs,ha,hl=>by
  have e:za F b node x (k+1) (acc,(i:Int),(p:Int),(s:Int),false)=kF F b node x (za F b node x k) acc (i:Int) (p:Int) (s:Int) false:=rfl
  rw[e]
  unfold kF
  by_cases hlt:(i:Int)<x.1
  ·rw[if_pos (by simpa using hlt),qnL hF hb hm hp (by omega) (by decide) (by decide)]
   simp only[qxP]
   obtain ⟨m,hmm⟩:∃ m,x.1.toNat-i=m+1:=⟨x.1.toNat-i-1,by omega⟩
   rw[hmm]
   unfold pnums nst
   cases hq:pnum b p 2097152 with
   | none =>
    simp only
    rw[qD (by simp;omega)]
    simp only[qxP]
    rw[yI (by omega)]
    have hz:iconv .u64 (0:Int)=0:=by decide
    obtain ⟨gs,h2,h3⟩:=qnY (F:=F) (node:=node) (s:=s) hF hb hm hp hx k (i+1) (acc++[iconv .u64 0]) (by omega) (by omega) (fun y hy=>by
     rcases qxV.1 hy with hy | hy
     ·exact ha y hy
     ·rw[qyl,hz] at hy;subst hy;decide) (by simp;omega)
    exact ⟨gs,p,s,h2,hp,by omega,h3⟩
   | some w =>
    simp only
    obtain ⟨w0,w1,w2,w3,_,_⟩:=j1 hb hp hq
    have hz:iconv .u64 w.1=w.1:=by
     have:iconv .u64 w.1=w.1%18446744073709551616:=qaT _
     rw[this];omega
    rw[hz,qD (by simp;omega)]
    simp only[qxP]
    rw[yI (by omega)]
    have ih:=qwK (F:=F) (node:=node) hF hb hm hx k (i+1) w.2 (s+1) (acc++[w.1]) (by omega) (by omega) w3 (by omega) (fun y hy=>by
     rcases qxV.1 hy with hy | hy
     ·exact ha y hy
     ·rw[qyl] at hy;subst hy;exact ⟨w0,w2⟩) (by simp;omega)
    rw[show x.1.toNat-(i+1)=m from by omega] at ih
    rw[show s+(m+1)=s+1+m from by omega]
    exact ih
  ·rw[if_neg (by simpa using hlt),show x.1.toNat-i=0 from by omega]
   exact ⟨hp,ha,by rw[qyP]⟩
theorem qhB {F:Nat}(hF:20000≤F){gs:qAE}(hg:N64 gs){node a s:Int}{bad:Bool}:zW F node gs a s bad=some ((gb gs node).1,a,s,(bad || ((gb gs node).2 != 0))):=by
 unfold zW
 rw[qtx hF hg]
 rfl
theorem qsu {F:Nat}(hF:20000≤F){b:qAE}(hb:U8s b)(hm:b.length≤4096){p s node:Nat}(hp:p≤b.length)(hs:s≤40000){n:Int}(h0:0≤n)(h1:n≤100) :
  match plist b p node n with
  | some y=>y.2.1≤b.length∧y.2.2≤101∧kO F b (p:Int) (s:Int) false (node:Int) n=some (y.1,(y.2.1:Int),((s+y.2.2:Nat):Int),false)
  | none=>∃ (l:qAE) (a q:Nat),a≤b.length∧kO F b (p:Int) (s:Int) false (node:Int) n=some (l,(a:Int),(q:Int),true):=by
 unfold kO plist
 rw[qnL (by omega) hb hm hp (by omega) h0 (by omega)]
 simp only[qxP]
 unfold nst
 cases hq:pnum b p n with
 | none =>
  simp only
  obtain ⟨gs,h2,h3⟩:=qnY (F:=F) (node:=(node:Int)) (s:=s) (p:=p) (x:=(0,(p:Int),(s:Int),true)) (by omega) hb hm hp (by simp) F 0 [] (by simp;omega) (by simp) (fun y hy=>by simp at hy) (by simp)
  rw[show ((0:Nat):Int)=0 from rfl] at h3
  rw[h3,qhB hF h2]
  exact ⟨_,p,s,hp,rfl⟩
 | some w =>
  simp only
  obtain ⟨w0,w1,w2,w3,_,_⟩:=j1 hb hp hq
  have:=qwK (F:=F) (node:=(node:Int)) (x:=(w.1,(w.2:Int),((s+1:Nat):Int),false)) (by omega) hb hm (by simp only;omega) F 0 w.2 (s+1) [] (by simp only;omega) (by simp only;omega) w3 (by omega) (fun y hy=>by simp at hy) rfl
  simp only[qy9] at this
  rw[show ((0:Nat):Int)=0 from rfl] at this
  cases hy:pnums b 2097152 w.1.toNat w.2 [] with
  | none =>
   rw[hy] at this
   obtain ⟨gs,a,q,h2,h3,h4,h5⟩:=this
   simp only
   rw[h5,qhB hF h2]
   exact ⟨_,a,q,h3,rfl⟩
  | some y =>
   rw[hy] at this
   obtain ⟨h2,h3,h4⟩:=this
   simp only
   rw[h4,qhB hF h3]
   by_cases he:(gb y.1 (node:Int)).2=0
   ·rw[if_pos he]
    refine ⟨h2,by simp only;omega,?_⟩
    simp only[he]
    rw[show s+(1+w.1.toNat)=s+1+w.1.toNat from by omega]
    rfl
   ·rw[if_neg he]
    have hd:(((gb y.1 (node:Int)).2:Int) != 0)=true:=by simpa using he
    refine ⟨(gb y.1 (node:Int)).1,y.2,s+1+w.1.toNat,h2,?_⟩
    rw[hd]
    rfl
theorem qqi {F:Nat}(hF:20000≤F){b:qAE}(hb:U8s b)(hm:b.length≤4096){p s:Nat}(hp:p≤b.length){node n:Int} :
  ∃ l:qAE,kO F b (p:Int) (s:Int) true node n=some (l,(p:Int),(s:Int),true):=by
 unfold kO
 rw[qnK (by omega) hb hm hp]
 simp only[qxP]
 obtain ⟨gs,h2,h3⟩:=qnY (F:=F) (node:=node) (s:=s) (p:=p) (x:=(0,(p:Int),(s:Int),true)) (by omega) hb hm hp (by simp) F 0 [] (by simp;omega) (by simp) (fun y hy=>by simp at hy) (by simp)
 rw[show ((0:Nat):Int)=0 from rfl] at h3
 rw[h3,qhB hF h2]
 exact ⟨_,rfl⟩
def pgr (b:qAE)(n:Nat):Nat→Nat→Nat→List (qAE)→Option (List (qAE)×Nat×Nat)
 | 0,p,s,acc=>some (acc,p,s)
 | j+1,p,s,acc=>match plist b p acc.length (n:Int) with | none=>none | some y=>pgr b n j y.2.1 (s+y.2.2) (acc++[y.1])
def pG (b:qAE):Option (List (qAE)×Nat) :=
 match pnum b 3 100 with
 | none=>none
 | some x=>match pgr b x.1.toNat x.1.toNat x.2 1 [] with
  | none=>none
  | some y=>if y.2.1=b.length∧gchk y.1=0 then some (y.1,y.2.2) else none
theorem qqx {F:Nat}(hF:20000≤F){b:qAE}(hb:U8s b)(hm:b.length≤4096){p s:Nat}(hp:p≤b.length){x:Int×Int×Int×Bool}(h1:x.1≤100):∀ (k i:Nat) (acc:List (qAE)),x.1.toNat<k+i→(i:Int)≤x.1→acc.length=i →
  ∃ gs,q9 F b x k ((i:Int),acc,(p:Int),(s:Int),true)=zE F b gs (p:Int) (s:Int) true
 | 0,i,acc,h,h1,_=>by omega
 | k+1,i,acc,h,h2,hl=>by
  show ∃ gs,kD F b x (q9 F b x k) (i:Int) acc (p:Int) (s:Int) true=_
  unfold kD
  by_cases hlt:(i:Int)<x.1
  ·obtain ⟨l,hl1⟩:=qqi (s:=s) (node:=(i:Int)) (n:=x.1) hF hb hm hp
   rw[if_pos (by simpa using hlt),hl1]
   simp only[qxP]
   rw[qD (by simp;omega)]
   simp only[qxP]
   rw[yI (by omega)]
   exact qqx hF hb hm hp h1 k (i+1) _ (by omega) (by omega) (by simp;omega)
  ·rw[if_neg (by simpa using hlt)]
   exact ⟨acc,rfl⟩
theorem qwJ {F:Nat}(hF:20000≤F){b:qAE}(hb:U8s b)(hm:b.length≤4096){x:Int×Int×Int×Bool}(h1:x.1≤100):∀ (k i p s:Nat) (acc:List (qAE)),x.1.toNat<k+i→(i:Int)≤x.1→acc.length=i→p≤b.length→s≤1+101*i →
  match pgr b x.1.toNat (x.1.toNat-i) p s acc with
  | some y=>y.2.1≤b.length∧q9 F b x k ((i:Int),acc,(p:Int),(s:Int),false)=zE F b y.1 (y.2.1:Int) (y.2.2:Int) false
  | none=>∃ gs a q,q9 F b x k ((i:Int),acc,(p:Int),(s:Int),false)=zE F b gs a q true
 | 0,i,p,s,acc,h,h2,_,_,_=>by omega
 | k+1,i,p,s,acc,h,h2,hl,hp,hs=>by
  have e:q9 F b x (k+1) ((i:Int),acc,(p:Int),(s:Int),false)=kD F b x (q9 F b x k) (i:Int) acc (p:Int) (s:Int) false:=rfl
  rw[e]
  unfold kD
  by_cases hlt:(i:Int)<x.1
  ·obtain ⟨m,hmm⟩:∃ m,x.1.toNat-i=m+1:=⟨x.1.toNat-i-1,by omega⟩
   rw[if_pos (by simpa using hlt),hmm]
   have hL:=qsu (F:=F) (s:=s) (node:=i) (n:=x.1) hF hb hm hp (by omega) (by omega) h1
   unfold pgr
   rw[hl,show ((x.1.toNat:Nat):Int)=x.1 from by omega]
   cases hq:plist b p i x.1 with
   | none =>
    rw[hq] at hL
    obtain ⟨l,a,q,h3,h4⟩:=hL
    simp only
    rw[h4]
    simp only[qxP]
    rw[qD (by simp;omega)]
    simp only[qxP]
    rw[yI (by omega)]
    obtain ⟨gs,h5⟩:=qqx (F:=F) (s:=q) hF hb hm h3 h1 k (i+1) (acc++[l]) (by omega) (by omega) (by simp;omega)
    exact ⟨gs,_,_,h5⟩
   | some y =>
    rw[hq] at hL
    obtain ⟨h3,h4,h5⟩:=hL
    simp only
    rw[h5]
    simp only[qxP]
    rw[qD (by simp;omega)]
    simp only[qxP]
    rw[yI (by omega)]
    have ih:=qwJ (F:=F) hF hb hm h1 k (i+1) y.2.1 (s+y.2.2) (acc++[y.1]) (by omega) (by omega) (by simp;omega) h3 (by omega)
    rw[show x.1.toNat-(i+1)=m from by omega] at ih
    exact ih
  ·rw[if_neg (by simpa using hlt),show x.1.toNat-i=0 from by omega]
   exact ⟨hp,rfl⟩
theorem qpq {F:Nat}{b:qAE}{gs:List (qAE)}{a s:Int}:zE F b gs a s true=some (gs,false,a,s,true):=rfl
theorem qvV {F:Nat}(hF:1000≤F){b:qAE}{gs:List (qAE)}{a:Nat}{s:Int}:zE F b gs (a:Int) s false=some (gs,decide (a=b.length∧gchk gs=0),(a:Int),s,false):=by
 unfold zE
 rw[if_pos (by decide)]
 by_cases h:a=b.length
 ·rw[if_pos (by simp[h]),qgh hF]
  simp only[qxP]
  unfold kE
  by_cases h2:gchk gs=0
  ·simp[h,h2]
  ·simp[h2]
 ·rw[if_neg (by simp;omega)]
  unfold kE
  simp[h]
theorem qst {F:Nat}(hF:20000≤F){b:qAE}(hb:U8s b)(hm:b.length≤4096)(h3:3≤b.length):∃ x,qaI F b 3 0 false=some x∧match pG b with
  | some y=>x.1=y.1∧x.2.1=true∧x.2.2.2.1=(y.2:Int)
  | none=>x.2.1=false:=by
 unfold qaI pG
 have hn:=qnL (F:=F) (p:=3) (s:=0) (most:=100) (by omega) hb hm h3 (by omega) (by decide) (by decide)
 rw[show ((3:Nat):Int)=3 from rfl,show ((0:Nat):Int)=0 from rfl] at hn
 rw[hn]
 simp only[qxP]
 unfold nst
 cases hq:pnum b 3 100 with
 | none =>
  simp only
  obtain ⟨gs,h5⟩:=qqx (F:=F) (p:=3) (s:=0) (x:=(0,((3:Nat):Int),((0:Nat):Int),true)) hF hb hm h3 (by simp) F 0 [] (by simp;omega) (by simp) rfl
  rw[show ((0:Nat):Int)=0 from rfl] at h5 ⊢
  rw[h5,qpq]
  exact ⟨_,rfl,rfl⟩
 | some w =>
  simp only
  obtain ⟨w0,w1,w2,w3,_,_⟩:=j1 hb h3 hq
  have:=qwJ (F:=F) (x:=(w.1,(w.2:Int),((0+1:Nat):Int),false)) hF hb hm w1 F 0 w.2 1 [] (by simp only;omega) (by simp only;omega) rfl w3 (by omega)
  simp only[qy9] at this
  rw[show ((0:Nat):Int)=0 from rfl,show ((1:Nat):Int)=((0+1:Nat):Int) from rfl] at this
  cases hy:pgr b w.1.toNat w.1.toNat w.2 1 [] with
  | none =>
   rw[hy] at this
   obtain ⟨gs,a,q,h5⟩:=this
   simp only
   rw[h5,qpq]
   exact ⟨_,rfl,rfl⟩
  | some y =>
   rw[hy] at this
   obtain ⟨h5,h6⟩:=this
   simp only
   rw[h6,qvV (by omega)]
   by_cases hc:y.2.1=b.length∧gchk y.1=0
   ·rw[if_pos hc]
    exact ⟨_,rfl,rfl,by simp[hc],rfl⟩
   ·rw[if_neg hc]
    exact ⟨_,rfl,by simp only;exact decide_eq_false hc⟩
theorem ql7 (l:qAE)(g:List (qAE)):gtot (l::g)=l.length+gtot g:=rfl
theorem qpk {b:qAE}{most:Int}(hmo:most<18446744073709551616):∀ {zs:qAE} {p:Nat} {acc t:qAE},b.drop p=zs.flatMap vn++t→(∀ x∈zs,0≤x∧x≤most) →
  pnums b most zs.length p acc=some (acc++zs,p+(zs.flatMap vn).length)∧b.drop (p+(zs.flatMap vn).length)=t
 | [],p,acc,t,h,_=>⟨by simp[pnums],by simpa using h⟩
 | x::zs,p,acc,t,h,hz=>by
  rw[qx4,qxS] at h
  have hx:=hz x List.mem_cons_self
  obtain ⟨h1,h2⟩:=qf3 h hx.1 hx.2 hmo
  obtain ⟨h3,h4⟩:=qpk hmo (acc:=acc++[x]) h2 fun y hy=>hz y (qx7 _ hy)
  rw[qx4,qxQ,← qyM]
  refine ⟨?_,h4⟩
  rw[qxY]
  unfold pnums
  rw[h1]
  simp only
  rw[h3,qxS]
  rfl
theorem qwy {l:qAE}{node:Int}(hn:Nd node)(hk:gkc l=0):gb (gp false node l) node=(l,0):=by
 have h:=zn.1 hk
 unfold gb
 rw[qdX,if_neg (by omega),if_pos hn,qq3 hn h.2 (fun hh=>by cases hh)]
theorem qt2 {b:qAE}{p node:Nat}{n:Nat}{l t:qAE}(hnode:node≤1000)(hn:n≤100)(hl:l.length≤n)(hk:gkc l=0)(h:b.drop p=vn l.length++((gp false (node:Int) l).flatMap vn++t)) :
  plist b p node (n:Int)=some (l,p+(vn l.length).length+((gp false (node:Int) l).flatMap vn).length,1+l.length)∧b.drop (p+(vn l.length).length+((gp false (node:Int) l).flatMap vn).length)=t:=by
 obtain ⟨h1,h2⟩:=qf3 (most:=(n:Int)) h (by omega) (by omega) (by omega)
 have hnd:Nd (node:Int):=⟨by omega,by omega⟩
 obtain ⟨h3,h4⟩:=qpk (most:=2097152) (acc:=[]) (by decide) h2 (qkm hnd (zn.1 hk).2 (fun hh=>by cases hh))
 refine ⟨?_,h4⟩
 unfold plist
 rw[h1]
 simp only
 rw[qdX] at h3
 rw[show ((l.length:Int)).toNat=l.length from by omega,h3]
 simp only[qx6]
 rw[qwy hnd hk,if_pos rfl]
end Go.Proofs.YtlioijpkhffbnaaGreat
