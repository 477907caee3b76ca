/- Plain facts of what the functions of this seat compute, part 2. -/
import Derived.Test.YtmhggdbfbmkpeaaGreatPureShelf7
import Derived.KernelRfl
import Derived.Lib.SlicesCompact
open BitVec renaming ofNat→qyc, ofInt→qye, toNat_ofNat→qyy
open Bool renaming false_eq_true→qxP, and_eq_true→qyi, not_true→qys, or_eq_true→qyC, not_false→qzA, not_eq_true'→qzN
open Int renaming toNat_natCast→qxH, eq_ofNat_of_zero_le→qxK, tdiv_eq_ediv_of_nonneg→qyG, natCast_mul→qy1, toNat_of_nonneg→qzE, ediv_le_self→qzR, ediv_nonneg→qAb
open List renaming getElem?_eq_getElem→qxE, length_append→qxF, append_assoc→qxG, drop_eq_getElem_cons→qxI, replicate→qxJ, mem_append→qxL, mem_of_getElem?→qxM, drop_eq_nil_of_le→qxN, mem_cons→qxO, getElem?_eq_some_iff→qxQ, drop_zero→qxT, nil_append→qxV, length_cons→qxX, mem_cons_of_mem→qxZ, length_take→qx1, getElem?_eq_none→qx2, mem_cons_self→qx5, getElem_mem→qx8, getD_eq_getElem?_getD→qyb, length_replicate→qyh, replicate_succ→qyk, range→qyr, take_append_drop→qyu, append_nil→qyv, length_nil→qyA, length_map→qyB, pairwise_cons→qyJ, mem_filter→qyK, drop_succ_cons→qyL, getElem?_map→qyM, cons_append→qyU, map_append→qy2, take_add_one→qzb, take_length→qzq, getElem?_range→qzr, filter_sublist→qzs, singleton_append→qzz, range_succ→qzF, flatten_cons→qzM, length_singleton→qzU, pairwise_append→qzX
open List.cons renaming injEq→qzj, inj→qAh
open Nat renaming le_refl→qxY, pow_le_pow_right→qx4, add_sub_cancel→qx6, zero_le→qx7, mod_eq_of_lt→qya, mul_le_mul_right→qyf, zero_add→qyj, add_assoc→qyF, pow_pos→qyN, add_zero→qyO, pow_succ→qyS, div_le_self→qyT, div_le_div_right→qy0, sub_zero→qy4, add_comm→qy5, mul_le_mul→qzf, mul_comm→qzi, add_mul→qzn, one_mul→qzD, div_add_mod→qzV, mod_le→qAg, lt_irrefl→qAi
open Option renaming bind_some→qxD, map_some→qyg, bind_eq_some_iff→qyn, map_bind→qAc
open Option.some renaming injEq→qxR
open Prod.mk renaming injEq→qzc
namespace Go.Proofs.YtmhggdbfbmkpeaaGreat
open Go SX
variable {F:Nat} {rec68:(List (Int×Int)×qAq×Int)→Option (List (Int×Int)×qAq)} {l:qAq} {least:Int} {o:List (Int×Int)} {rest:qAq} {i:Int}
theorem qr7 {F:Nat}(hF:20000≤F){R:List (Int×Int)}{least:Int}(hm:R.length≤300)(hR:∀ r∈R,RunOk r∧least≤r.2)(hle:0≤least):∀ (k i:Nat) (a:Int) (l:qAq) (f:Bool) (S:qAq),R.length<k+i→i≤R.length→Rep l f S→Nd a→(∃ q,Sep q (R.drop i)∧(0<i→a+1≤q)) →
  Wr (zy F least R k (a,(i:Int),(l.length:Int),pk l,f)) (S++encRs least (decide (0<i)) a (R.drop i))
 | 0,_,_,_,_,_,_,_,_,_,_=>by omega
 | k+1,i,a,l,f,S,h,hi,hr,ha,hs=>by
  show Wr (vN F least R (zy F least R k) a (i:Int) (l.length:Int) (pk l) f) _
  unfold vN
  by_cases hlt:i<R.length
  ·obtain ⟨hro,hrl⟩:=hR R[i] (qx8 hlt)
   unfold RunOk at hro
   unfold Nd at ha
   rw[if_pos (by simp;omega),qt,qxE hlt,qxI hlt]
   simp only[qxD]
   have hj:∀ {l':qAq} {f':Bool} {S':qAq},Rep l' f' S'→S'=S++ga (if decide (0<i)=true then R[i].1-a-2 else foldOf (R[i].1-a)).toNat→Sep (R[i].1+R[i].2) (R.drop (i+1)) →
     Wr (yg F (zy F least R k) least (i:Int) R[i] (l'.length:Int) (pk l') f') (S++encRs least (decide (0<i)) a (R[i]::R.drop (i+1))):=by
    intro l' f' S' hr' hS hsep
    unfold yg
    rw[qy (by omega) (by omega)]
    obtain ⟨l2,f2,e,h2⟩:=qed hF hr' (n:=R[i].2-least) (by omega) (by omega)
    rw[e]
    simp only[qxD]
    rw[qkz (by omega) (by omega),qn (by omega)]
    refine qjw (qr7 hF hm hR hle k (i+1) (R[i].1+R[i].2-1) l2 f2 _ (by omega) (by omega) h2 (by unfold Nd;omega) ⟨_,hsep,fun _=>by omega⟩) ?_
    rw[hS];simp[encRs,qxG]
   obtain ⟨q,hsp,hq⟩:=hs
   rw[qxI hlt] at hsp
   obtain ⟨h1,h2,h3⟩:=hsp
   by_cases h0:0<i
   ·have hq':=hq h0
    have e3:isub .i64 R[i].1 a=R[i].1-a:=qy (by omega) (by omega)
    rw[if_neg (by simp;omega),e3,qy (by omega) (by omega)]
    obtain ⟨l',f',e,h'⟩:=qed hF hr (n:=R[i].1-a-2) (by omega) (by omega)
    rw[e]
    simp only[qxD]
    exact hj h' (by rw[if_pos (by simpa using h0)]) h3
   ·obtain rfl:i=0:=by omega
    have hf:=qfz (x:=R[0].1-a) (by omega)
    rw[if_pos (by simp),qy (by omega) (by omega),qq2 F (by omega) (by omega)]
    simp only[qxD]
    rw[show iconv .i64 (foldOf (R[0].1-a))=foldOf (R[0].1-a) from qX (by omega) (by omega)]
    obtain ⟨l',f',e,h'⟩:=qed hF hr (n:=foldOf (R[0].1-a)) (by omega) (by omega)
    rw[e]
    simp only[qxD]
    exact hj h' (by rw[if_neg (by simp)]) h3
  ·rw[if_neg (by simp;omega),qxN (by omega)]
   exact ⟨l,f,rfl,by simpa[encRs] using hr⟩
theorem qu6 {F:Nat}(hF:20000≤F){R:List (Int×Int)}{least node q:Int}{l S:qAq}{f:Bool}(hm:R.length≤300)(hR:∀ r∈R,RunOk r∧least≤r.2)(hle:0≤least)(hr:Rep l f S)(hn:Nd node)(hs:Sep q R) :
  Wr (qaL F (l.length:Int) (pk l) f node least R) (S++encR least node R):=by
 unfold qaL
 obtain ⟨l',f',e,h'⟩:=qed hF hr (n:=(R.length:Int)) (by omega) (by omega)
 rw[e]
 simp only[qxD]
 refine qjw (qr7 hF hm hR hle F 0 node l' f' _ (by omega) (by omega) h' hn ⟨q,by simpa using hs,by omega⟩) ?_
 simp[encR]
theorem qhD:∀ {bs:qAq} {f:Bool},okB f bs=true→∀ n∈bs,n≤bsum bs
 | [],_,_,n,h=>by simp at h
 | x::bs,f,h,n,hn=>by
  rw[qgn] at h
  simp only[qyi] at h
  have h0:=qkI h.2
  have hx:0≤x:=by simpa using h.1.1
  have hb:bsum (x::bs)=x+bsum bs:=rfl
  rcases qxO.1 hn with rfl | hn
  ·omega
  ·have:=qhD h.2 n hn;omega
def encO (rest:qAq)(least:Int):List (Int×Int):=if 0<least then spO least (rs rest) else []
def encS (rest:qAq)(least:Int):qAq:=if 0<least then flat (spS least (rs rest)) else rest
def encL (node:Int)(rest:qAq)(least:Int)(k:Nat):qAq :=
 if rest=[] then [] else (if 0<least then encR least node (encO rest least) else [])++zes k (gp false node (encS rest least))
def rstO (l fr:qAq)(back:Int):qAq:=if 0<back then rst fr l else l
def enc (node:Int)(l fr:qAq)(back least:Int)(k:Nat):qAq :=
 ga l.length++if l=[] then [] else (if 0<back then encB (tbs fr l) else [])++encL node (rstO l fr back) least k
theorem qvK {F:Nat}(hF:200000≤F){a l:qAq}(ha:gkc a=0)(hl:gkc l=0):qfS F a l=some (tbs a l,rst a l):=by
 obtain ⟨h1,h2⟩:=zL.1 ha
 obtain ⟨h3,h4⟩:=zL.1 hl
 have:=qqn hF (jG h2).1 (jG h4).1 h1 h3 F 0 [] true 0 (by omega) (by omega) (by simp) (by omega)
 rw[qxT,qxV] at this
 unfold qfS
 rw[show ((0:Nat):Int)=0 from rfl] at this
 rw[this]
 rfl
theorem qpF {F k:Nat}(hF:20000≤F)(h1:1≤k)(h2:k≤16){l S rest:qAq}{f:Bool}{node q:Int}(hr:Rep l f S)(hn:Nd node)(hm:rest.length≤300)(hs:Ris q rest) :
  Wr (ye F node (k:Int) rest (l.length:Int) (pk l) f) (S++zes k (gp false node rest)):=by
 unfold ye
 have h40:L40 (gp false node rest):=fun x hx=>by have:=qmd hn hs (by simp) x hx;omega
 have hp:=qvt (F:=F) (l:=[]) hF h1 h2 h40 (by rw[qjf];omega) (by intro x hx;simp at hx) (by simp)
 simp only[qxV,qyA] at hp
 rw[qvu hF hm hn hs]
 simp only[qxD]
 rw[show qdj F 0 ([]:qAq) (gp false node rest) (k:Int)=_ from hp]
 simp only[qxD]
 unfold yf
 by_cases hb:(zes k (gp false node rest)).length≤8192
 ·rw[if_pos hb]
  simp only[qys,Bool.or_false]
  obtain ⟨l',f',e,h'⟩:=qoc hF hr (qr8 k _) hb
  rw[e]
  exact ⟨l',f',rfl,h'⟩
 ·rw[if_neg hb]
  simp only[qzA,Bool.or_true]
  have hr':=que hr (k:=zes k (gp false node rest)) (by simp;omega)
  obtain ⟨l',f',e,h'⟩:=qoc hF hr' (k:=[]) (by intro x hx;simp at hx) (by simp)
  have e':yM F (l.length:Int) (pk l) true 0 []=some ((l'.length:Int),pk l',f'):=e
  rw[e']
  exact ⟨l',f',rfl,by simpa using h'⟩
theorem qmJ {F k:Nat}(hF:2000000≤F)(h1:1≤k)(h2:k≤16){l S rest:qAq}{f:Bool}{node least:Int}(hr:Rep l f S)(hn:Nd node)(hg:gkc rest=0)(_hle:least=0∨2≤least∧least≤300) :
  Wr (yd F node least (k:Int) rest (l.length:Int) (pk l) f) (S++encL node rest least k):=by
 obtain ⟨hm,hs⟩:=zL.1 hg
 unfold yd encL encO encS
 by_cases h0:rest=[]
 ·subst h0
  exact ⟨l,f,rfl,by simpa using hr⟩
 ·have hlen:rest.length≠0:=by simpa using h0
  rw[if_neg (by simp;exact h0),if_neg h0]
  by_cases hl:0<least
  ·rw[if_pos (by simpa using hl),if_pos hl,if_pos hl,if_pos hl,qqt hF hm hs]
   simp only[qxD]
   obtain ⟨s1,s2⟩:=qn3 (least:=least) hm hs
   obtain ⟨r1,r2⟩:=qmu hm hs
   obtain ⟨l',f',e,h'⟩:=qu6 (F:=F) (R:=spO least (rs rest)) (least:=least) (node:=node) (q:=-1) (by omega) s1 (fun r hr=>⟨r2 r (qyK.1 hr).1,by simpa using (qyK.1 hr).2⟩) (by omega) hr hn (qdo _ r1)
   rw[e]
   simp only[qxD]
   refine qjw (qpF (by omega) h1 h2 h' hn s2 (qj3 hs _)) ?_
   rw[qxG]
  ·rw[if_neg (by simpa using hl),if_neg hl,if_neg hl,qxV]
   exact qpF (by omega) h1 h2 hr hn hm hs
theorem qiX {a l:qAq}(h:gkc l=0):gkc (rst a l)=0:=qvZ h qzs
theorem qpH {F k:Nat}(hF:2000000≤F)(h1:1≤k)(h2:k≤16){x fr:qAq}{node back least:Int}(hn:Nd node)(hg:gkc x=0)(hfr:0<back→gkc fr=0)(hle:least=0∨2≤least∧least≤300) :
  Wr (vG F 0 [] false node x fr back least (k:Int)) (enc node x fr back least k):=by
 obtain ⟨hm,hs⟩:=zL.1 hg
 unfold vG enc rstO
 obtain ⟨l,f,e,hr⟩:=qed (F:=F) (by omega) qvO (n:=(x.length:Int)) (by omega) (by omega)
 rw[show zb F 0 ([]:qAq) false (x.length:Int)=_ from e]
 simp only[qxD,qxV,qxH] at hr ⊢
 by_cases h0:x=[]
 ·subst h0
  rw[if_pos (by simp),if_pos rfl]
  exact ⟨l,f,rfl,by simpa using hr⟩
 ·rw[if_neg (by simpa using h0),if_neg h0]
  by_cases hb:0<back
  ·have hfg:=hfr hb
   have hfl:=(zL.1 hfg).1
   rw[if_pos (by simpa using hb),if_pos hb,if_pos hb,qvK (by omega) hfg hg]
   simp only[qxD]
   have htl:=qhS fr x
   have hok:okB true (tbs fr x)=true:=qhh _ _ _ _ (by omega) (Or.inl rfl)
   have hsum:bsum (tbs fr x)≤0+(fr.map (hasB x)).length:=qfU _ _ _ (by omega)
   rw[qyB] at hsum
   have hbd:∀ n∈tbs fr x,n≤1000000:=fun n hnm=>by
    have:=qhD hok n hnm
    omega
   obtain ⟨l',f',e',h'⟩:=qqM (F:=F) (bs:=tbs fr x) (by omega) (by omega) hr hok hbd
   rw[e']
   simp only[qxD]
   refine qjw (qmJ hF h1 h2 h' hn (qiX hg) hle) ?_
   rw[qxG]
  ·rw[if_neg (by simpa using hb),if_neg hb,if_neg hb,qxV]
   exact qmJ hF h1 h2 hr hn hg hle
def rgam (l:qAq)(p:Nat)(most:Int):Option (Int×Nat):=if (fg l p).2.2=0∧(fg l p).1≤most then some ((fg l p).1,(fg l p).2.1.toNat) else none
def Rd {α:Type}(l:qAq)(m:Option ((α×Int×Int) ⊕ (Int×Int)))(o:Option (α×Nat)):Prop :=
 match o with
 | none=>∃ z,m=some (.inr z)
 | some x=>m=some (.inl (x.1,(l.length:Int),(x.2:Int)))
theorem vO {l:qAq}{p:Nat}{most:Int}{x:Int×Nat}(h:rgam l p most=some x):0≤x.1∧x.1≤most∧x.1≤1099511627776∧x.2≤l.length:=by
 unfold rgam at h
 split at h
 ·rename_i hc
  rcases ql7 (l:=l) (a:=p) with h1 | ⟨n,q,h1,h2,h3⟩
  ·exact absurd hc.1 h1
  ·simp only[qxR] at h
   subst h
   rw[h1] at hc ⊢
   simp only at hc ⊢
   omega
 ·simp at h
theorem qwQ {F:Nat}:k9 F true=some (.inl ()):=rfl
theorem qtL {F:Nat}:k9 F false=some (.inr ()):=rfl
theorem qhI {F:Nat}(hF:20000≤F){l:qAq}(hl:Bit l)(hm:l.length≤8192){p:Nat}(hp:p≤l.length){most:Int}(h0:0≤most)(h1:most≤1000000000):Rd l (zB F (l.length:Int) (pk l) (p:Int) most) (rgam l p most):=by
 obtain ⟨mo,rfl⟩:=qxK h0
 unfold zB rgam
 rw[qiK hF hl hm hp]
 simp only[qxD]
 rw[zz (by omega)]
 rcases ql7 (l:=l) (a:=p) with h2 | ⟨n,q,h2,h3,h4⟩
 ·rw[if_neg (fun h=>h2 h.1),show ((fg l p).2.2 == 0 && decide ((fg l p).1≤(mo:Int)))=false from by simp[h2],qtL]
  exact ⟨_,rfl⟩
 ·rw[h2]
  simp only[true_and,beq_self_eq_true,Bool.true_and]
  by_cases hc:(n:Int)≤mo
  ·rw[if_pos hc,decide_eq_true hc,qwQ]
   show _=_
   simp only[lbnd,qxD,qxH]
   rw[yA (by omega)]
  ·rw[if_neg hc,decide_eq_false hc,qtL]
   exact ⟨_,rfl⟩
theorem qfX {α β:Type}{l:qAq}{m:Option ((α×Int×Int) ⊕ (Int×Int))}{o:Option (α×Nat)}{k:α×Int×Int→Option ((β×Int×Int) ⊕ (Int×Int))}{kl:Int×Int→Option ((β×Int×Int) ⊕ (Int×Int))}{g:α×Nat→Option (β×Nat)}
  (h:Rd l m o) (hk:∀ x,o=some x→Rd l (k (x.1,(l.length:Int),(x.2:Int))) (g x)) (hkl:∀ z,∃ z',kl z=some (.inr z')):Rd l (lbnd m k kl) (o.bind g):=by
 cases o with
 | none =>
  obtain ⟨z,h⟩:=h
  rw[h]
  exact hkl z
 | some x =>
  have h':m=some (.inl (x.1,(l.length:Int),(x.2:Int))):=h
  rw[h']
  exact hk x rfl
def rbl (l:qAq)(many:Int):Nat→Bool→Nat→Option (qAq×Nat)
 | 0,_,p=>some ([],p)
 | k+1,b,p=>(rgam l p many).bind fun g=>(rbl l many k true g.2).bind fun r=>some ((g.1+if b then 1 else 0)::r.1,r.2)
def rblk (l:qAq)(p:Nat)(many:Int):Option (qAq×Nat):=(rgam l p (many+1)).bind fun g=>rbl l many g.1.toNat false g.2
theorem qnY {l:qAq}{many:Int}:∀ {k:Nat} {b:Bool} {p:Nat} {r:qAq×Nat},p≤l.length→rbl l many k b p=some r→r.1.length=k∧r.2≤l.length
 | 0,_,p,r,hp,h=>by simp only[rbl,qxR] at h;subst h;exact ⟨rfl,hp⟩
 | k+1,b,p,r,hp,h=>by
  simp only[rbl,qyn,qxR] at h
  obtain ⟨g,h1,r',h2,rfl⟩:=h
  have h3:=qnY (vO h1).2.2.2 h2
  simp[h3.1,h3.2]
theorem qrm {α:Type}{lim n:Nat}{y:α}(h:n≤lim):mk lim y (n:Int)=some (qxJ n y):=by
 unfold mk
 rw[if_pos ⟨by omega,by omega⟩,qxH]
theorem quw {α:Type}{o r:List α}{x y:α}:(o++x::r).set o.length y=o++y::r:=by
 rw[List.set_append_right _ _ (qxY _)];simp
theorem qnD {α:Type}{o r:List α}{x:α}:idx (o++x::r) (o.length:Int)=some x:=by
 rw[qt];simp
theorem qmo {F:Nat}(hF:20000≤F){l:qAq}(hl:Bit l)(hm:l.length≤8192){many:Int}(h0:0≤many)(h1:many≤1000000){w:qAq}(hw:w.length≤1000000):∀ (k:Nat) (o:qAq) (p:Nat),w.length<k+o.length→o.length≤w.length→p≤l.length →
  Rd l (zW F (pk l) many w k (o++qxJ (w.length-o.length) 0,(o.length:Int),(l.length:Int),(p:Int)))
   ((rbl l many (w.length-o.length) (decide (0<o.length)) p).map fun r=>(o++r.1,r.2))
 | 0,_,_,_,_,_=>by omega
 | k+1,o,p,h,ho,hp=>by
  show Rd l (yL F (pk l) many w (zW F (pk l) many w k) (o++qxJ (w.length-o.length) 0) (o.length:Int) (l.length:Int) (p:Int)) _
  unfold yL
  by_cases hlt:o.length<w.length
  ·rw[if_pos (by simpa using hlt)]
   obtain ⟨d,hd⟩:∃ d,w.length-o.length=d+1:=⟨w.length-o.length-1,by omega⟩
   rw[hd]
   unfold rbl
   rw[qyk,qAc]
   refine qfX (qhI hF hl hm hp h0 (by omega)) (fun g hg=>?_) (fun z=>⟨_,rfl⟩)
   have hok:=vO hg
   rw[qnD,qxH,quw]
   simp only[qxD,lett,Function.comp]
   rw[qtE,qw (by split <;> omega) (by split <;> omega),qn (by omega)]
   have e:w.length-(o++[g.1+if 0<o.length then 1 else 0]).length=d:=by simp;omega
   have:=qmo hF hl hm h0 h1 hw k (o++[g.1+if 0<o.length then 1 else 0]) g.2 (by simp;omega) (by simp;omega) hok.2.2.2
   rw[e] at this
   simp only[qxG,qzz,qxF,qzU] at this
   rw[show decide (0<o.length+1)=true from by simp] at this
   have h9:((rbl l many d true g.2).bind fun r=>some ((g.1+if decide (0<o.length)=true then 1 else 0)::r.1,r.2)).map (fun r=>(o++r.1,r.2))=(rbl l many d true g.2).map fun r=>(o++(g.1+if 0<o.length then 1 else 0)::r.1,r.2):=by
    cases rbl l many d true g.2 <;> simp
   rw[h9]
   exact this
  ·rw[if_neg (by simp;omega),show w.length-o.length=0 from by omega]
   show _=_
   simp[qaa]
theorem qpd {F:Nat}(hF:20000≤F){l:qAq}(hl:Bit l)(hm:l.length≤8192){many:Int}(h0:0≤many)(h1:many≤1000){p:Nat}(hp:p≤l.length):Rd l (ju F (l.length:Int) (pk l) (p:Int) many) (rblk l p many):=by
 unfold ju rblk
 rw[qw (by omega) (by omega)]
 refine qfX (qhI hF hl hm hp (by omega) (by omega)) (fun g hg=>?_) (fun z=>⟨_,rfl⟩)
 have hok:=vO hg
 obtain ⟨n,hn⟩:=qxK hok.1
 rw[hn,qrm (by omega)]
 simp only[qxD,qxH]
 have:=qmo hF hl hm h0 (by omega) (w:=qxJ n 0) (by simp;omega) F [] g.2 (by simp;omega) (by simp) hok.2.2.2
 simp only[qyh,qyA,qy4,qxV] at this
 rw[show decide (0<0)=false from rfl] at this
 have h9:(rbl l many n false g.2).map (fun r=>(r.1,r.2))=rbl l many n false g.2:=by cases rbl l many n false g.2 <;> rfl
 rw[h9] at this
 exact this
theorem qh0 {x:qAq}{xs:List (qAq)}{i:Nat}(h:xs[i]?=some x):(xs.drop i).flatten=x++(xs.drop (i+1)).flatten:=by
 have hlt:=(qxQ.1 h).1
 rw[qxI hlt,qzM]
 rw[qxE hlt] at h
 simp only[qxR] at h
 rw[h]
theorem ql2 {F:Nat}{xs:List (qAq)}(hm:xs.length≤1000):∀ (k i:Nat) (o:qAq),xs.length<k+i→i≤xs.length→o.length+(xs.drop i).flatten.length≤1000000 →
  qR F xs k (o,(i:Int))=some (o++(xs.drop i).flatten)
 | 0,_,_,_,_,_=>by omega
 | k+1,i,o,h,hi,ho=>by
  show qK F xs (qR F xs k) o (i:Int)=_
  unfold qK
  by_cases hlt:i<xs.length
  ·have hg:=qxE hlt
   have hf:=qh0 hg
   rw[hf,qxF] at ho
   rw[if_pos (by simpa using hlt),qt,hg,hf]
   simp only[qxD]
   rw[qT (by omega),qn (by omega)]
   simp only[qxD]
   rw[ql2 hm k (i+1) _ (by omega) (by omega) (by rw[qxF];omega),qxG]
  ·rw[if_neg (by simp;omega),qxN (by omega)]
   simp[vD]
theorem ql3 {F:Nat}(hF:20000≤F){xs:List (qAq)}(hm:xs.length≤1000)(ht:xs.flatten.length≤1000000):∀ (k i n:Nat),xs.length<k+i→i≤xs.length→n+(xs.drop i).flatten.length=xs.flatten.length →
  qS F xs k ((n:Int),(i:Int))=some xs.flatten
 | 0,_,_,_,_,_=>by omega
 | k+1,i,n,h,hi,hn=>by
  show qL F xs (qS F xs k) (n:Int) (i:Int)=_
  unfold qL
  by_cases hlt:i<xs.length
  ·have hg:=qxE hlt
   have hf:=qh0 hg
   rw[hf,qxF] at hn
   rw[if_pos (by simpa using hlt),qt,hg]
   simp only[qxD]
   rw[vg (by omega),if_neg (by simp;omega),qn (by omega)]
   exact ql3 hF hm ht k (i+1) _ (by omega) (by omega) (by omega)
  ·rw[if_neg (by simp;omega)]
   rw[qxN (by omega)] at hn
   simp only[List.flatten_nil,qyA] at hn
   unfold ka
   rw[qrb (by omega)]
   simp only[qxD]
   have:=ql2 (F:=F) hm F 0 [] (by omega) (by omega) (by simpa using ht)
   simpa using this
theorem qp0 {F:Nat}(hF:20000≤F){a b c:qAq}(h:a.length+(b.length+c.length)≤1000000):zE F [a,b,c]=some (a++(b++c)):=by
 have:=ql3 (F:=F) hF (xs:=[a,b,c]) (by simp) (by simpa using h) F 0 0 (by simp;omega) (by simp) (by simp)
 simp only[qzM,List.flatten_nil,qyv] at this
 exact this
theorem qvT {F:Nat}{a:qAq}(h:a.length≤1000000):zw F a=some (srt a):=by
 unfold zw
 rw[if_pos (by omega)]
def rrn (l:qAq)(least many:Int):Nat→Bool→Int→Nat→Option (List (Int×Int)×Nat)
 | 0,_,_,p=>some ([],p)
 | k+1,b,a,p=>(rgam l p 2097152).bind fun g=>(rgam l g.2 many).bind fun x =>
   (rrn l least many k true (a+(if b then g.1+2 else zl g.1)+(x.1+least)-1) x.2).bind fun r=>some ((a+(if b then g.1+2 else zl g.1),x.1+least)::r.1,r.2)
def rrns (l:qAq)(p:Nat)(node least many:Int):Option (List (Int×Int)×Nat):=(rgam l p (many/least)).bind fun g=>rrn l least many g.1.toNat false node g.2
theorem qn1 {l:qAq}{least many:Int}:∀ {k:Nat} {b:Bool} {a:Int} {p:Nat} {r:List (Int×Int)×Nat},p≤l.length→rrn l least many k b a p=some r→r.1.length=k∧r.2≤l.length
 | 0,_,_,p,r,hp,h=>by simp only[rrn,qxR] at h;subst h;exact ⟨rfl,hp⟩
 | k+1,b,a,p,r,hp,h=>by
  simp only[rrn,qyn,qxR] at h
  obtain ⟨g,h1,x,h2,r',h3,rfl⟩:=h
  have h4:=qn1 (vO h2).2.2.2 h3
  simp[h4.1,h4.2]
theorem qob {g:Int}(h0:0≤g)(h:g≤2097152):-1048577≤zl g∧zl g≤1048576:=by unfold zl;split <;> omega
theorem qrM {F:Nat}(hF:20000≤F){l:qAq}(hl:Bit l)(hm:l.length≤8192){least many:Int}(h0:0≤many)(h1:many≤300)(h2:2≤least)(h3:least≤300){w:List (Int×Int)}(hw:w.length≤1000):∀ (k:Nat) (o:List (Int×Int)) (a:Int) (p:Nat),w.length<k+o.length→o.length≤w.length→p≤l.length→(-3000000*((o.length:Int)+1)≤a∧a≤3000000*((o.length:Int)+1)) →
  Rd l (zn F (pk l) least many w k (o++qxJ (w.length-o.length) (0,0),a,(o.length:Int),(l.length:Int),(p:Int)))
   ((rrn l least many (w.length-o.length) (decide (0<o.length)) a p).map fun r=>(o++r.1,r.2))
 | 0,_,_,_,_,_,_,_=>by omega
 | k+1,o,a,p,h,ho,hp,ha=>by
  show Rd l (ve F (pk l) least many w (zn F (pk l) least many w k) (o++qxJ (w.length-o.length) (0,0)) a (o.length:Int) (l.length:Int) (p:Int)) _
  unfold ve
  by_cases hlt:o.length<w.length
  ·rw[if_pos (by simpa using hlt)]
   obtain ⟨d,hd⟩:∃ d,w.length-o.length=d+1:=⟨w.length-o.length-1,by omega⟩
   rw[hd]
   unfold rrn
   rw[qyk,qAc]
   refine qfX (qhI hF hl hm hp (by omega) (by omega)) (fun g hg=>?_) (fun z=>⟨_,rfl⟩)
   have hok:=vO hg
   have hun:=qob hok.1 hok.2.1
   have hj:∀ (s:Int),s=a+(if decide (0<o.length)=true then g.1+2 else zl g.1) →
     Rd l (kU F (zn F (pk l) least many w k) (pk l) least many (o++(0,0)::qxJ d (0,0)) (o.length:Int) (g.1,(l.length:Int),(g.2:Int)) s)
      (Option.map (fun r=>(o++r.1,r.2)) ((rgam l g.2 many).bind fun x=>(rrn l least many d true (a+(if decide (0<o.length)=true then g.1+2 else zl g.1)+(x.1+least)-1) x.2).bind fun r=>some ((a+(if decide (0<o.length)=true then g.1+2 else zl g.1),x.1+least)::r.1,r.2))):=by
    intro s hs
    rw[← hs]
    have hsb:-3000000*((o.length:Int)+1)-1048577≤s∧s≤3000000*((o.length:Int)+1)+2097154:=by rw[hs];split <;> omega
    unfold kU
    rw[qAc]
    refine qfX (qhI hF hl hm hok.2.2.2 h0 (by omega)) (fun x hx=>?_) (fun z=>⟨_,rfl⟩)
    have hox:=vO hx
    rw[qnD,qxH,quw]
    simp only[qxD,lett,Function.comp]
    rw[qnD,qw (by omega) (by omega)]
    simp only[qxD]
    have e1:isub .i64 (x.1+least) 1=x.1+least-1:=qy (by omega) (by omega)
    rw[e1,qw (by omega) (by omega),qn (by omega)]
    have e:w.length-(o++[(s,x.1+least)]).length=d:=by simp;omega
    have:=qrM hF hl hm h0 h1 h2 h3 hw k (o++[(s,x.1+least)]) (s+(x.1+least)-1) x.2 (by simp;omega) (by simp;omega) hox.2.2.2 (by simp;omega)
    rw[e] at this
    simp only[qxG,qzz,qxF,qzU] at this
    rw[show decide (0<o.length+1)=true from by simp] at this
    have h9:((rrn l least many d true (s+(x.1+least)-1) x.2).bind fun r=>some ((s,x.1+least)::r.1,r.2)).map (fun r=>(o++r.1,r.2))=(rrn l least many d true (s+(x.1+least)-1) x.2).map fun r=>(o++(s,x.1+least)::r.1,r.2):=by
     cases rrn l least many d true (s+(x.1+least)-1) x.2 <;> simp
    rw[h9,show s+(x.1+least-1)=s+(x.1+least)-1 from by omega]
    exact this
   simp only[Function.comp]
   by_cases hz:0<o.length
   ·rw[if_neg (by simp;intro hh;subst hh;simp at hz)]
    have e1:iadd .i64 g.1 2=g.1+2:=qw (by omega) (by omega)
    rw[e1,qw (by omega) (by omega)]
    exact hj _ (by rw[if_pos (by simpa using hz)])
   ·have hz0:o.length=0:=by omega
    rw[if_pos (by simp[hz0])]
    obtain ⟨gn,hgn⟩:=qxK hok.1
    rw[show iconv .u64 g.1=g.1 from by rw[hgn];exact zz (by omega),qmG F hok.1 (by omega)]
    simp only[qxD]
    rw[qw (by omega) (by omega)]
    exact hj _ (by rw[if_neg (by simp[hz0])])
  ·rw[if_neg (by simp;omega),show w.length-o.length=0 from by omega]
   show _=_
   simp[qbh]
theorem qsE {F:Nat}(hF:20000≤F){l:qAq}(hl:Bit l)(hm:l.length≤8192){node least many:Int}(h0:0≤many)(h1:many≤300)(h2:2≤least)(h3:least≤300)(hn:Nd node){p:Nat}(hp:p≤l.length) :
  Rd l (qaK F (l.length:Int) (pk l) (p:Int) node least many) (rrns l p node least many):=by
 unfold qaK rrns
 unfold Nd at hn
 have hq:iquo .i64 many least=many/least:=by
  obtain ⟨m,rfl⟩:=qxK h0
  obtain ⟨c,rfl⟩:=qxK (show 0≤least by omega)
  unfold iquo
  rw[qyG (by omega)]
  have h5:(m:Int)/(c:Int)≤m:=qzR _ (by omega)
  have h6:0≤(m:Int)/(c:Int):=qAb (by omega) (by omega)
  exact qX (by omega) (by omega)
 have hd0:0≤many/least:=qAb h0 (by omega)
 have hd1:many/least≤many:=qzR _ h0
 have hc:∀ {ρ:Type} (m:Option ρ),chk (least != 0) m=m:=fun m=>by unfold chk;rw[if_pos (by simp;omega)]
 rw[hq,hc]
 refine qfX (qhI hF hl hm hp hd0 (by omega)) (fun g hg=>?_) (fun z=>⟨_,rfl⟩)
 have hok:=vO hg
 obtain ⟨n,hn'⟩:=qxK hok.1
 rw[hn',qrm (by omega)]
 simp only[qxD,qxH]
 have:=qrM hF hl hm h0 h1 h2 h3 (w:=qxJ n (0,0)) (by simp;omega) F [] node g.2 (by simp;omega) (by simp) hok.2.2.2 (by simp;omega)
 simp only[qyh,qyA,qy4,qxV] at this
 rw[show decide (0<0)=false from rfl] at this
 have h9:(rrn l least many n false node g.2).map (fun r=>(r.1,r.2))=rrn l least many n false node g.2:=by cases rrn l least many n false node g.2 <;> rfl
 rw[h9] at this
 exact this
def rls2 (l:qAq)(node:Int)(k:Nat)(many:Int)(out:qAq)(R:List (Int×Int))(p:Nat):Option (qAq×Nat) :=
 if (rm R []).2=0∧((rm R []).1.length:Int)≤many-out.length then
  match gfr l k (many-out.length-(rm R []).1.length).toNat false node p with
  | .inl _=>none
  | .inr g=>some (srt (out++((rm R []).1++g.1)),g.2)
 else none
def rls1 (l:qAq)(node least:Int)(k:Nat)(many:Int)(out:qAq)(p:Nat):Option (qAq×Nat) :=
 if many-out.length=0 then some (out,p) else
 if 0<least then (rrns l p node least (many-out.length)).bind fun r=>rls2 l node k many out r.1 r.2 else rls2 l node k many out [] p
def rls (l:qAq)(p:Nat)(node:Int)(fr:qAq)(back least:Int)(k:Nat):Option (qAq×Nat) :=
 (rgam l p 300).bind fun m=>if m.1=0 then some ([],m.2) else
  if 0<back then (rblk l m.2 fr.length).bind fun b=>if (cpy fr b.1).2=0∧((cpy fr b.1).1.length:Int)≤m.1 then rls1 l node least k m.1 (cpy fr b.1).1 b.2 else none
  else rls1 l node least k m.1 [] m.2
theorem qtI {α σ ρ:Type}(y:α)(k:α→Option ρ)(kl:σ→Option ρ):lbnd (some (.inl y)) k kl=k y:=rfl
theorem qgL {F:Nat}{c:Bool}{ρ:Type}(k kl:Unit→Option ρ):lbnd (k9 F c) k kl=if c then k () else kl ():=by cases c <;> rfl
theorem qp5 {l:qAq}{k:Nat}:∀ {m:Nat} {b:Bool} {a:Int} {p:Nat} {e:Int},gfr l k m b a p=.inl e→e≠0
 | 0,_,_,_,_,h=>by simp[gfr] at h
 | m+1,b,a,p,e,h=>by
  unfold gfr at h
  split at h
  ·rename_i h1;simp only[Sum.inl.injEq] at h;rw[← h];exact h1
  ·split at h
   ·simp only[Sum.inl.injEq] at h;rw[← h];decide
   ·split at h
    ·rename_i e' he;simp only[Sum.inl.injEq] at h;rw[← h];exact qp5 he
    ·simp at h
theorem qty {l:qAq}{k:Nat}(hl:Bit l)(hk:1≤k):∀ {m:Nat} {b:Bool} {a:Int} {p:Nat} {r:qAq×Nat},p≤l.length→gfr l k m b a p=.inr r→r.2≤l.length
 | 0,_,_,p,r,hp,h=>by simp only[gfr,Sum.inr.injEq] at h;subst h;exact hp
 | m+1,b,a,p,r,hp,h=>by
  unfold gfr at h
  split at h
  ·simp at h
  ·rename_i h1
   split at h
   ·simp at h
   ·split at h
    ·simp at h
    ·rename_i r' hr
     simp only[Sum.inr.injEq] at h
     rcases qu9 hl (k:=k) (p:=p) hk with h2 | ⟨g,q,h2,h3,h4⟩
     ·exact absurd h2 h1
     ·rw[h2] at hr
      rw[← h]
      exact qty (r:=r') hl hk h4 hr
theorem qrF {F k:Nat}(hF:2000000≤F)(h1:1≤k)(h2:k≤16){l:qAq}(hl:Bit l)(hm:l.length≤8192){node many:Int}(hn:Nd node){out:qAq}(ho:(out.length:Int)≤many)(hmm:many≤300){R:List (Int×Int)}{p:Nat}(hp:p≤l.length){x:Int×Int×Int}(hx:x.1=many) :
  Rd l (yc F (pk l) node (k:Int) x out R (l.length:Int) (p:Int)) (rls2 l node k many out R p):=by
 unfold yc rls2
 rw[qtK (by omega),hx]
 simp only[qxD]
 have hlen:=qwW (R:=R) (rest:=[])
 have e1:isub .i64 many (out.length:Int)=many-out.length:=qy (by omega) (by omega)
 rw[qgL,e1]
 by_cases hc:(rm R []).2=0∧((rm R []).1.length:Int)≤many-out.length
 ·have e2:isub .i64 (many-(out.length:Int)) ((rm R []).1.length:Int)=((many-out.length-(rm R []).1.length).toNat:Int):=by rw[qy (by omega) (by omega)];omega
  rw[if_pos (by simpa using hc),if_pos hc,e2,qtz (by omega) hl hm h1 h2 (by omega) hp hn]
  simp only[qxD]
  rw[qgL]
  cases hg:gfr l k (many-out.length-(rm R []).1.length).toNat false node p with
  | inl e =>
   have:=qp5 hg
   rw[if_neg (show ¬ ((gfI [] (Sum.inl e:Int ⊕ (qAq×Nat))).2.2 == 0)=true by simpa[gfI] using this)]
   exact ⟨_,rfl⟩
  | inr g =>
   have hgl:=qny hg
   rw[if_pos (show ((gfI [] (Sum.inr g:Int ⊕ (qAq×Nat))).2.2 == 0)=true by simp[gfI]),show (gfI [] (Sum.inr g:Int ⊕ (qAq×Nat))).1=g.1 from by simp[gfI],qp0 (by omega) (by omega)]
   simp only[qxD]
   rw[qvT (by simp;omega)]
   simp only[qxD]
   have hch:∀ {ρ:Type} (q:Option ρ),chk (decide ((srt (out++((rm R []).1++g.1))).length=(out++((rm R []).1++g.1)).length)) q=q:=fun q=>by unfold chk;rw[if_pos (decide_eq_true (qi1 _))]
   rw[hch]
   rfl
 ·rw[if_neg (by simpa using hc),if_neg hc]
  exact ⟨_,rfl⟩
theorem qrE {F k:Nat}(hF:2000000≤F)(h1:1≤k)(h2:k≤16){l:qAq}(hl:Bit l)(hm:l.length≤8192){node many least:Int}(hn:Nd node){out:qAq}(ho:(out.length:Int)≤many)(hmm:many≤300){p:Nat}(hp:p≤l.length){x:Int×Int×Int}(hx:x.1=many)(hle:least=0∨2≤least∧least≤300) :
  Rd l (yb F (pk l) node least (k:Int) x out (l.length:Int) (p:Int)) (rls1 l node least k many out p):=by
 unfold yb rls1
 have e1:isub .i64 x.1 (out.length:Int)=many-out.length:=by rw[hx];exact qy (by omega) (by omega)
 rw[e1]
 by_cases h0:many-out.length=0
 ·rw[if_pos (by simpa using h0),if_pos h0]
  rfl
 ·rw[if_neg (by simpa using h0),if_neg h0]
  by_cases hs:0<least
  ·rw[if_pos (by simpa using hs),if_pos hs]
   refine qfX (qsE (by omega) hl hm (by omega) (by omega) (by omega) (by omega) hn hp) (fun r hr=>?_) (fun z=>⟨_,rfl⟩)
   have hq:r.2≤l.length:=by
    unfold rrns at hr
    rw[qyn] at hr
    obtain ⟨g,hg,hr⟩:=hr
    exact (qn1 (vO hg).2.2.2 hr).2
   exact qrF hF h1 h2 hl hm hn ho hmm hq hx
  ·rw[if_neg (by simpa using hs),if_neg hs]
   exact qrF hF h1 h2 hl hm hn ho hmm hp hx
theorem qry {l:qAq}{p:Nat}{many:Int}{b:qAq×Nat}(h:rblk l p many=some b):b.2≤l.length:=by
 unfold rblk at h
 rw[qyn] at h
 obtain ⟨g,hg,h⟩:=h
 exact (qnY (vO hg).2.2.2 h).2
theorem qwV {F k:Nat}(hF:2000000≤F)(h1:1≤k)(h2:k≤16){l:qAq}(hl:Bit l)(hm:l.length≤8192){node back least:Int}{fr:qAq}(hn:Nd node){p:Nat}(hp:p≤l.length)(hfr:0<back→gkc fr=0)(hle:least=0∨2≤least∧least≤300) :
  Rd l (vE F (l.length:Int) (pk l) (p:Int) node fr back least (k:Int)) (rls l p node fr back least k):=by
 unfold vE rls
 refine qfX (qhI (by omega) hl hm hp (by omega) (by omega)) (fun m hg=>?_) (fun z=>⟨_,rfl⟩)
 have hok:=vO hg
 by_cases h0:m.1=0
 ·rw[if_pos (by simpa using h0),if_pos h0]
  rfl
 ·rw[if_neg (by simpa using h0),if_neg h0]
  by_cases hb:0<back
  ·have hfl:=(zL.1 (hfr hb)).1
   rw[if_pos (by simpa using hb),if_pos hb]
   refine qfX (qpd (by omega) hl hm (by omega) (by omega) hok.2.2.2) (fun b hbk=>?_) (fun z=>⟨_,rfl⟩)
   rw[qvi (by omega)]
   simp only[qxD]
   rw[qgL]
   by_cases hc:(cpy fr b.1).2=0∧((cpy fr b.1).1.length:Int)≤m.1
   ·rw[if_pos (by simpa using hc),if_pos hc]
    exact qrE hF h1 h2 hl hm hn hc.2 (by omega) (qry hbk) rfl hle
   ·rw[if_neg (by simpa using hc),if_neg hc]
    exact ⟨_,rfl⟩
  ·rw[if_neg (by simpa using hb),if_neg hb]
   exact qrE hF h1 h2 hl hm hn (by simp;omega) (by omega) hok.2.2.2 rfl hle
theorem quh {k:Nat}{l:qAq}{node back least:Int}{fr:qAq}{p:Nat}{r:qAq×Nat}(hl:Bit l)(h1:1≤k)(h:rls l p node fr back least k=some r):r.2≤l.length:=by
 have h2:∀ {many:Int} {out:qAq} {R:List (Int×Int)} {q:Nat},q≤l.length→rls2 l node k many out R q=some r→r.2≤l.length:=by
  intro many out R q hq hr
  unfold rls2 at hr
  split at hr
  ·split at hr
   ·simp at hr
   ·rename_i g hg
    simp only[qxR] at hr
    rw[← hr]
    exact qty (r:=g) hl h1 hq hg
  ·simp at hr
 have h3:∀ {many:Int} {out:qAq} {q:Nat},q≤l.length→rls1 l node least k many out q=some r→r.2≤l.length:=by
  intro many out q hq hr
  unfold rls1 at hr
  split at hr
  ·simp only[qxR] at hr;rw[← hr];exact hq
  ·split at hr
   ·rw[qyn] at hr
    obtain ⟨r',hr1,hr2⟩:=hr
    refine h2 ?_ hr2
    unfold rrns at hr1
    rw[qyn] at hr1
    obtain ⟨g,hg,hr1⟩:=hr1
    exact (qn1 (vO hg).2.2.2 hr1).2
   ·exact h2 hq hr
 unfold rls at h
 rw[qyn] at h
 obtain ⟨m,hm,h⟩:=h
 split at h
 ·simp only[qxR] at h;rw[← h];exact (vO hm).2.2.2
 ·split at h
  ·rw[qyn] at h
   obtain ⟨b,hb,h⟩:=h
   split at h
   ·exact h3 (qry hb) h
   ·simp at h
  ·exact h3 (vO hm).2.2.2 h
def rdl (l:qAq)(p:Nat)(node:Int)(fr:qAq)(back least:Int)(k:Nat):Option (qAq×Nat) :=
 (rls l p node fr back least k).bind fun r=>if gkc r.1=0∧(enc node r.1 fr back least k).length≤8192∧p+(enc node r.1 fr back least k).length=r.2∧(l.drop p).take (enc node r.1 fr back least k).length=enc node r.1 fr back least k then some r else none
theorem qrU {F:Nat}{l e:qAq}(hl:Bit l)(hm:l.length≤8192)(he:Bit e)(hem:e.length≤8192){p:Nat}{x17:qAq×Int×Int}(h17:x17.2.1=(l.length:Int))(hpe:p+e.length≤l.length):∀ (k i:Nat),e.length<k+i→i≤e.length →
  (if (l.drop (p+i)).take (e.length-i)=e.drop i then zx F (pk l) (p:Int) x17 ((e.length:Int),pk e,false) k (i:Int)=some (x17.1,true,x17.2.1,x17.2.2)
   else ∃ a b,zx F (pk l) (p:Int) x17 ((e.length:Int),pk e,false) k (i:Int)=some ([],false,a,b))
 | 0,_,_,_=>by omega
 | k+1,i,h,hi=>by
  have hd:zx F (pk l) (p:Int) x17 ((e.length:Int),pk e,false) (k+1) (i:Int)=vL F (pk l) (p:Int) x17 ((e.length:Int),pk e,false) (zx F (pk l) (p:Int) x17 ((e.length:Int),pk e,false) k) (i:Int):=rfl
  rw[hd]
  unfold vL
  by_cases hlt:i<e.length
  ·rw[if_pos (show decide ((i:Int)<(((e.length:Int),pk e,false):Int×qAq×Bool).1)=true by simpa using hlt)]
   simp only
   rw[qoB he (by omega) hlt,h17,vg (by omega),qoB hl (by omega) (show p+i<l.length by omega)]
   simp only[qxD]
   rw[qgL]
   have ih:=qrU (F:=F) hl hm he hem h17 hpe k (i+1) (by omega) (by omega)
   have hstep:((l.drop (p+i)).take (e.length-i)=e.drop i)↔(e[i]=l[p+i]∧(l.drop (p+(i+1))).take (e.length-(i+1))=e.drop (i+1)):=by
    rw[qxI (show p+i<l.length by omega),qxI hlt,show e.length-i=(e.length-(i+1))+1 from by omega,List.take_succ_cons,qzj,show p+i+1=p+(i+1) from by omega]
    constructor
    ·rintro ⟨a,b⟩;exact ⟨a.symm,b⟩
    ·rintro ⟨a,b⟩;exact ⟨a.symm,b⟩
   rw[qn (by omega)]
   by_cases hq:e[i]=l[p+i]
   ·rw[if_pos (show (e[i] == l[p+i])=true by simpa using hq)]
    by_cases hr:(l.drop (p+(i+1))).take (e.length-(i+1))=e.drop (i+1)
    ·rw[if_pos (hstep.2 ⟨hq,hr⟩)]
     rw[if_pos hr] at ih
     rw[h17] at ih
     exact ih
    ·rw[if_neg (fun hh=>hr (hstep.1 hh).2)]
     rw[if_neg hr] at ih
     exact ih
   ·rw[if_neg (show ¬ (e[i] == l[p+i])=true by simpa using hq),if_neg (fun hh=>hq (hstep.1 hh).1)]
    exact ⟨_,_,rfl⟩
  ·obtain rfl:i=e.length:=by omega
   rw[if_neg (show ¬ decide (((e.length:Nat):Int)<(((e.length:Int),pk e,false):Int×qAq×Bool).1)=true by simp)]
   rw[if_pos (by simp)]
   rfl
theorem qvm {node:Int}{x fr:qAq}{back least:Int}{k:Nat}:1≤(enc node x fr back least k).length:=by
 unfold enc
 rw[qxF,qnx];omega
theorem quk {F k:Nat}(hF:2000000≤F)(h1:1≤k)(h2:k≤16){l:qAq}(hl:Bit l)(hm:l.length≤8192){node back least:Int}{fr:qAq}(hn:Nd node){p:Nat}(hp:p≤l.length)(hfr:0<back→gkc fr=0)(hle:least=0∨2≤least∧least≤300) :
  match rdl l p node fr back least k with
  | none=>∃ a b,vF F (l.length:Int) (pk l) (p:Int) node fr back least (k:Int)=some ([],false,a,b)
  | some r=>vF F (l.length:Int) (pk l) (p:Int) node fr back least (k:Int)=some (r.1,true,(l.length:Int),(r.2:Int)):=by
 have hL:=qwV hF h1 h2 hl hm hn hp hfr hle
 unfold vF rdl
 cases hr:rls l p node fr back least k with
 | none =>
  rw[hr] at hL
  obtain ⟨z,hz⟩:=hL
  rw[hz]
  exact ⟨_,_,rfl⟩
 | some r =>
  rw[hr] at hL
  have hL':vE F (l.length:Int) (pk l) (p:Int) node fr back least (k:Int)=some (.inl (r.1,(l.length:Int),(r.2:Int))):=hL
  have hat:=quh hl h1 hr
  rw[hL',qtI,qgl (by omega)]
  simp only[qxD]
  rw[qgL]
  by_cases hg:gkc r.1=0
  ·obtain ⟨e,f,he,hrep⟩:=qpH hF h1 h2 (x:=r.1) hn hg hfr hle
   have hen:=qvm (node:=node) (x:=r.1) (fr:=fr) (back:=back) (least:=least) (k:=k)
   rw[if_pos (show (gkc r.1 == 0)=true by simpa using hg),he]
   simp only[qxD]
   cases f with
   | true =>
    have hfl:=hrep.full rfl
    rw[qgL]
    rw[if_neg (fun hh=>by omega)]
    exact ⟨_,_,rfl⟩
   | false =>
    have hel:=hrep.ok rfl
    have heb:=hrep.bit
    have hem:=hrep.len
    rw[hel] at heb hem ⊢
    simp only[qzA,if_true]
    rw[qy (by omega) (by omega),qgL]
    by_cases hq:p+(enc node r.1 fr back least k).length=r.2
    ·rw[if_pos (show (((enc node r.1 fr back least k).length:Int) == (r.2:Int)-p)=true by simp;omega)]
     unfold vM
     have:=qrU (F:=F) hl hm heb hem (p:=p) (x17:=(r.1,(l.length:Int),(r.2:Int))) rfl (by omega) F 0 (by omega) (by omega)
     simp only[qyO,qy4,qxT] at this
     by_cases hb:(l.drop p).take (enc node r.1 fr back least k).length=enc node r.1 fr back least k
     ·rw[if_pos ⟨hg,hem,hq,hb⟩]
      rw[if_pos hb] at this
      exact this
     ·rw[if_neg (fun hh=>hb hh.2.2.2)]
      rw[if_neg hb] at this
      exact this
    ·rw[if_neg (show ¬ (((enc node r.1 fr back least k).length:Int) == (r.2:Int)-p)=true by simp;omega),if_neg (fun hh=>hq hh.2.2.1)]
     exact ⟨_,_,rfl⟩
  ·rw[if_neg (show ¬ (gkc r.1 == 0)=true by simpa using hg),if_neg (fun hh=>hg hh.1)]
   exact ⟨_,_,rfl⟩
theorem qfc {n:Nat}{most:Int}(hn:n≤1099511627776)(hm:(n:Int)≤most)(P R:qAq):rgam (P++(ga n++R)) P.length most=some ((n:Int),P.length+(ga n).length):=by
 unfold rgam
 rw[← qxG,qxi hn]
 simp only[true_and]
 rw[if_pos hm,qxH]
theorem qiW {n:Int}{most:Int}(h0:0≤n)(hn:n≤1099511627776)(hm:n≤most)(P R:qAq):rgam (P++(ga n.toNat++R)) P.length most=some (n,P.length+(ga n.toNat).length):=by
 rw[qfc (by omega) (by omega)]
 congr 2
 omega
theorem qnX {many : Int} (hmany : many ≤ 1000000) : ∀ (bs : qAq) (b : Bool) (P R : qAq), okB (!b) bs = true → (∀ n ∈ bs, n ≤ many) → rbl (P ++ (encBs b bs ++ R)) many bs.length b P.length = some (bs, P.length + (encBs b bs).length)
  | [], b, P, R, _, _ => by simp [rbl, encBs]
  | n :: bs, b, P, R, h, hb => by
    rw [qgn] at h
    simp only [qyi, qyC, decide_eq_true_eq, qzN] at h
    have hn := hb n (by simp)
    have hv : 0 ≤ n - (if b = true then 1 else 0) := by
      cases b with
      | false => simp; exact h.1.1
      | true => rcases h.1.2 with h2 | h2; · simp at h2
                · simp; omega
    unfold encBs
    simp only [qxX, rbl, qxG]
    rw [qiW hv (by split <;> omega) (by split <;> omega)]
    simp only [qxD]
    have := qnX hmany bs true (P ++ ga (n - if b = true then 1 else 0).toNat) R (by simpa using h.2) (fun z hz => hb z (by simp [hz]))
    simp only [qxG, qxF] at this
    rw [this]
    simp only [qxD, qxF]
    congr 2
    · congr 1; split <;> omega
    · omega
theorem qt8 {many:Int}(hmany:many≤1000000){bs:qAq}(P R:qAq)(h:okB true bs=true)(hb:∀ n∈bs,n≤many)(hl:(bs.length:Int)≤many+1):rblk (P++(encB bs++R)) P.length many=some (bs,P.length+(encB bs).length):=by
 unfold rblk encB
 rw[qxG,qfc (by omega) (by omega)]
 simp only[qxD,qxH]
 have:=qnX hmany bs false (P++ga bs.length) R (by simpa using h) hb
 simp only[qxG,qxF] at this
 rw[this]
 congr 2
 rw[qxF];omega
theorem qrL {least many:Int}(hle:0≤least):∀ (R:List (Int×Int)) (b:Bool) (a q:Int) (P T:qAq),(∀ r∈R,RunOk r∧least≤r.2∧r.2-least≤many)→Nd a→Sep q R→(b=true→a+1≤q) →
  rrn (P++(encRs least b a R++T)) least many R.length b a P.length=some (R,P.length+(encRs least b a R).length)
 | [],_,_,_,P,T,_,_,_,_=>by simp[rrn,encRs]
 | r::R,b,a,q,P,T,hR,ha,hs,hb=>by
  obtain ⟨hro,hrl,hrm⟩:=hR r (by simp)
  obtain ⟨s1,s2,s3⟩:=hs
  unfold RunOk at hro
  unfold Nd at ha
  have hf:=qfz (x:=r.1-a) (by omega)
  have hf2:foldOf (r.1-a)≤2097152:=by unfold foldOf;split <;> omega
  have hv:0≤(if b=true then r.1-a-2 else foldOf (r.1-a))∧(if b=true then r.1-a-2 else foldOf (r.1-a))≤2097152:=by
   cases b with
   | false=>simp;omega
   | true=>have:=hb rfl;simp;omega
  unfold encRs
  simp only[qxX,rrn,qxG]
  rw[qiW hv.1 (by omega) hv.2]
  simp only[qxD]
  have e1:=qiW (n:=r.2-least) (most:=many) (by omega) (by omega) hrm (P++ga (if b=true then r.1-a-2 else foldOf (r.1-a)).toNat) (encRs least true (r.1+r.2-1) R++T)
  simp only[qxG,qxF] at e1
  rw[e1]
  simp only[qxD]
  have e2:a+(if b=true then (if b=true then r.1-a-2 else foldOf (r.1-a))+2 else zl (if b=true then r.1-a-2 else foldOf (r.1-a)))=r.1:=by
   cases b with
   | false=>simp only[qxP,if_false];rw[qhv];omega
   | true=>simp only[if_true];omega
  rw[e2,show r.2-least+least=r.2 from by omega]
  have:=qrL hle R true (r.1+r.2-1) (r.1+r.2) ((P++ga (if b=true then r.1-a-2 else foldOf (r.1-a)).toNat)++ga (r.2-least).toNat) T (fun z hz=>hR z (by simp[hz])) (by unfold Nd;omega) s3 (fun _=>by omega)
  simp only[qxG,qxF] at this
  rw[show P.length+(ga (if b=true then r.1-a-2 else foldOf (r.1-a)).toNat).length+(ga (r.2-least).toNat).length=P.length+((ga (if b=true then r.1-a-2 else foldOf (r.1-a)).toNat).length+(ga (r.2-least).toNat).length) from by omega,this]
  simp only[qxD,qxF]
  congr 2
  omega
theorem qmg {least q:Int}(hle:2≤least):∀ {R:List (Int×Int)},Sep q R→(∀ r∈R,least≤r.2)→least*(R.length:Int)≤((flat R).length:Int)
 | [],_,_=>by simp[flat]
 | r::R,hs,hR=>by
  have h1:=hR r (by simp)
  have:=qmg hle hs.2.2 (fun z hz=>hR z (by simp[hz]))
  rw[zF,qxF,yQ,qxX]
  rw[show ((R.length+1:Nat):Int)=(R.length:Int)+1 from by omega,Int.mul_add]
  omega
theorem qul {least many node q:Int}(hle:2≤least){R:List (Int×Int)}(P T:qAq)(hR:∀ r∈R,RunOk r∧least≤r.2)(hn:Nd node)(hs:Sep q R)(hm:((flat R).length:Int)≤many)(hmm:many≤300) :
  rrns (P++(encR least node R++T)) P.length node least many=some (R,P.length+(encR least node R).length):=by
 unfold rrns encR
 have h1:=qmg hle hs (fun r hr=>(hR r hr).2)
 have h2:(R.length:Int)≤many/least:=by
  rw[Int.le_ediv_iff_mul_le (by omega)]
  rw[Int.mul_comm] at h1
  omega
 have h3:many/least≤many:=qzR _ (by omega)
 rw[qxG,qfc (by omega) h2]
 simp only[qxD,qxH]
 have:=qrL (least:=least) (many:=many) (by omega) R false node q (P++ga R.length) T (fun r hr=>⟨(hR r hr).1,(hR r hr).2,by have:=qhz hr;omega⟩) hn hs (by simp)
 simp only[qxG,qxF] at this
 rw[this]
 congr 2
 rw[qxF];omega
theorem qjY {rest:qAq}{least:Int}(h:gkc rest=0):skc (encO rest least)=0∧Ris (-1) (encS rest least)∧(flat (encO rest least)++encS rest least).Perm rest∧(flat (encO rest least)).Pairwise (·≤·):=by
 obtain ⟨hm,hs⟩:=zL.1 h
 unfold encO encS
 by_cases hl:0<least
 ·rw[if_pos hl,if_pos hl]
  exact ⟨qv0 hm hs _,qj3 hs _,qpt _ _,qkP (jG (qj3 hs _)).1⟩
 ·rw[if_neg hl,if_neg hl]
  exact ⟨by decide,hs,by simp[flat],by simp[flat]⟩
theorem qpj {k:Nat}(h1:1≤k)(h2:k≤16){node least:Int}(hn:Nd node){rest out x:qAq}(hr:gkc rest=0)(hx:gkc x=0)(hp:(out++rest).Perm x)(P T:qAq) :
  rls2 (P++(zes k (gp false node (encS rest least))++T)) node k x.length out (encO rest least) P.length=some (x,P.length+(zes k (gp false node (encS rest least))).length):=by
 obtain ⟨e1,e2,e3,e4⟩:=qjY (least:=least) hr
 have hrm:=(zL.1 hr).1
 have hlen:=e3.length_eq
 have hlen2:=hp.length_eq
 rw[qxF] at hlen hlen2
 have hrmm:rm (encO rest least) []=(flat (encO rest least),0):=qsC e1 (by decide) (by rw[qq0];simp) (by simp) e4 (by omega)
 unfold rls2
 rw[hrmm]
 simp only[true_and]
 rw[if_pos (by omega),show ((x.length:Int)-out.length-(flat (encO rest least)).length).toNat=(gp false node (encS rest least)).length from by rw[qjf];omega]
 have h40:L40 (gp false node (encS rest least)):=fun z hz=>by have:=qmd hn e2 (by simp) z hz;omega
 have:=qnz h1 h2 P T h40 (qs6 (b:=false) hn e2 (by simp))
 rw[qxG] at this
 rw[this]
 simp only
 have hpx:(out++(flat (encO rest least)++encS rest least)).Perm x:=(List.Perm.append_left out e3).trans hp
 rw[qhs hpx (qkP (qhd hx))]
theorem qpi {k:Nat}(h1:1≤k)(h2:k≤16){node least:Int}(hn:Nd node)(hle:least=0∨2≤least∧least≤300){rest out x:qAq}(hr:gkc rest=0)(hx:gkc x=0)(ho:out.Pairwise (·≤·))(hp:(out++rest).Perm x)(P T:qAq) :
  rls1 (P++(encL node rest least k++T)) node least k x.length out P.length=some (x,P.length+(encL node rest least k).length):=by
 have hlen2:=hp.length_eq
 have hxm:=(zL.1 hx).1
 obtain ⟨hrm,hrs⟩:=zL.1 hr
 rw[qxF] at hlen2
 unfold rls1 encL
 by_cases h0:rest=[]
 ·subst h0
  simp only[qyA,qyO] at hlen2
  rw[if_pos (by omega),if_pos rfl]
  rw[qyv] at hp
  have e1:=qhs hp (qkP (qhd hx))
  have e2:=qhs (List.Perm.refl out) ho
  rw[e2] at e1
  rw[e1];simp
 ·have hl0:rest.length≠0:=by simpa using h0
  rw[if_neg (by omega),if_neg h0]
  by_cases hl:0<least
  ·obtain ⟨e1,e2,e3,e4⟩:=qjY (least:=least) hr
   have hlen:=e3.length_eq
   rw[qxF] at hlen
   obtain ⟨r1,r2⟩:=qmu hrm hrs
   have hO:encO rest least=spO least (rs rest):=by unfold encO;rw[if_pos hl]
   rw[if_pos hl,if_pos hl,qxG,qul (q:=-1) (by omega) _ _ (fun r hrr=>by rw[hO] at hrr;exact ⟨r2 r (qyK.1 hrr).1,by simpa using (qyK.1 hrr).2⟩) hn (by rw[hO];exact qdo _ r1) (by omega) (by omega)]
   simp only[qxD]
   have:=qpj (least:=least) h1 h2 hn hr hx hp (P++encR least node (encO rest least)) T
   simp only[qxG,qxF] at this
   rw[this,qxF]
   congr 2
   omega
  ·rw[if_neg hl,if_neg hl,qxV]
   have hO:encO rest least=[]:=by unfold encO;rw[if_neg hl]
   have:=qpj (least:=least) h1 h2 hn hr hx hp P T
   rw[hO] at this
   exact this
theorem qrG {k:Nat}(h1:1≤k)(h2:k≤16){node back least:Int}{x fr:qAq}(hn:Nd node)(hle:least=0∨2≤least∧least≤300)(hx:gkc x=0)(hfr:0<back→gkc fr=0)(P T:qAq) :
  rls (P++(enc node x fr back least k++T)) P.length node fr back least k=some (x,P.length+(enc node x fr back least k).length):=by
 have hxm:=(zL.1 hx).1
 unfold rls enc rstO
 rw[qxG,qfc (by omega) (by omega)]
 simp only[qxD]
 by_cases h0:x=[]
 ·subst h0
  rw[if_pos (by simp),if_pos rfl]
  simp
 ·have hx0:x.length≠0:=by simpa using h0
  rw[if_neg (by omega),if_neg h0]
  by_cases hb:0<back
  ·have hfg:=hfr hb
   have hfl:=(zL.1 hfg).1
   rw[if_pos hb,if_pos hb,if_pos hb]
   have htl:=qhS fr x
   have hok:okB true (tbs fr x)=true:=qhh _ _ _ _ (by omega) (Or.inl rfl)
   have hsum:bsum (tbs fr x)≤0+(fr.map (hasB x)).length:=qfU _ _ _ (by omega)
   rw[qyB] at hsum
   have e1:=qt8 (many:=(fr.length:Int)) (by omega) (bs:=tbs fr x) (P++ga x.length) (encL node (rst fr x) least k++T) hok (fun n hnm=>by have:=qhD hok n hnm;omega) (by omega)
   simp only[qxG,qxF] at e1
   rw[qxG,e1]
   simp only[qxD]
   rw[qq1 hfg]
   have hbe:=qo6 hfg hx
   have hfx:(fr.filter (hasB x)).length≤x.length:=by rw[hbe];exact List.length_filter_le _ _
   rw[if_pos ⟨rfl,by simp only;omega⟩]
   have hperm:(fr.filter (hasB x)++rst fr x).Perm x:=by rw[hbe];exact ql8 _ _
   have:=qpi h1 h2 hn hle (qiX hx) hx (qkP ((qhd hfg).sublist qzs)) hperm ((P++ga x.length)++encB (tbs fr x)) T
   simp only[qxG,qxF] at this
   simp only
   rw[show P.length+(ga x.length).length+(encB (tbs fr x)).length=P.length+((ga x.length).length+(encB (tbs fr x)).length) from by omega,this]
   congr 2
   simp only[qxF];omega
  ·rw[if_neg hb,if_neg hb,if_neg hb,qxV]
   have:=qpi h1 h2 hn hle hx hx (out:=[]) (by simp) (by simp) (P++ga x.length) T
   simp only[qxG,qxF] at this
   rw[this,qxF]
   congr 2
   omega
def hcB (back least k:Int):Prop:=back<0∨7<back∨least<0∨least=1∨300<least∨k<1∨16<k
instance hcDec (back least k:Int):Decidable (hcB back least k):=inferInstanceAs (Decidable (_∨_))
def hcE (back least k:Int):Int:=if hcB back least k then 3 else 0
def scE (node:Int)(fr:qAq)(back:Int):Int:=if Nd node then (if 0<back then gkc fr else 0) else 3
theorem qjg {F:Nat}{back least k:Int}:qcx F back least k=some (hcE back least k):=by
 unfold qcx hcE
 by_cases h:hcB back least k
 ·rw[if_pos (by unfold hcB at h;simp only[qyC,decide_eq_true_eq,beq_iff_eq];omega),if_pos h]
 ·rw[if_neg (by unfold hcB at h;simp only[qyC,decide_eq_true_eq,beq_iff_eq];omega),if_neg h]
theorem qsJ {F:Nat}(hF:20000≤F){node back least k:Int}{fr:qAq}:qe8 F node fr back least k=some (scE node fr back):=by
 unfold qe8 scE
 rw[qrn]
 by_cases h:Nd node
 ·rw[if_neg (by simp[h]),if_pos h]
  by_cases hb:0<back
  ·rw[if_pos (by simpa using hb),if_pos hb,qgl hF];rfl
  ·rw[if_neg (by simpa using hb),if_neg hb]
 ·rw[if_pos (by simp[h]),if_neg h]
theorem qbi {back least k:Int}(h:hcE back least k=0):(0≤back∧back≤7)∧(least=0∨2≤least∧least≤300)∧∃ k':Nat,k=(k':Int)∧1≤k'∧k'≤16:=by
 unfold hcE at h
 split at h
 ·simp at h
 ·rename_i h1
  unfold hcB at h1
  exact ⟨by omega,by omega,k.toNat,by omega,by omega,by omega⟩
theorem quu {node back:Int}{fr:qAq}(h:scE node fr back=0):Nd node∧(0<back→gkc fr=0):=by
 unfold scE at h
 split at h
 ·rename_i hn
  refine ⟨hn,fun hb=>?_⟩
  rw[if_pos hb] at h;exact h
 ·simp at h
theorem qut {node back:Int}{fr:qAq}(h:Nd node)(h2:0<back→gkc fr=0):scE node fr back=0:=by
 unfold scE
 rw[if_pos h]
 split
 ·rename_i hb;exact h2 hb
 ·rfl
def srE (m:Int)(b:qAq)(p node:Int)(fr:qAq)(back least k:Int):Int:=if hcE back least k≠0 then hcE back least k else if raOf m b p≠0 then raOf m b p else scE node fr back
def sr (m:Int)(b:qAq)(p node:Int)(fr:qAq)(back least k:Int):qAq×Int×Int :=
 if srE m b p node fr back least k≠0 then ([],0,srE m b p node fr back least k) else
 match rdl (bl b m.toNat) p.toNat node fr back least k.toNat with
 | none=>([],0,1)
 | some r=>(r.1,(r.2:Int),0)
theorem qpq {F k:Nat}(hF:2000000≤F)(h1:1≤k)(h2:k≤16){l:qAq}(hl:Bit l)(hm:l.length≤8192){node back least:Int}{fr:qAq}(hn:Nd node){p:Nat}(hp:p≤l.length)(hfr:0<back→gkc fr=0)(hle:least=0∨2≤least∧least≤300) :
  qak F (l.length:Int) (pk l) (p:Int) node fr back least (k:Int)=some (match rdl l p node fr back least k with | none=>([],0,1) | some r=>(r.1,(r.2:Int),0)):=by
 have:=quk hF h1 h2 hl hm hn hp hfr hle
 unfold qak
 cases h:rdl l p node fr back least k with
 | none =>
  rw[h] at this
  obtain ⟨a,b,e⟩:=this
  rw[e];rfl
 | some r =>
  rw[h] at this
  simp only at this
  rw[this];rfl
theorem qw1 {m p node back least k:Int}{b fr:qAq}(h:srE m b p node fr back least k=0):hcE back least k=0∧raOf m b p=0∧scE node fr back=0:=by
 unfold srE at h
 by_cases h1:hcE back least k=0
 ·rw[if_neg (by simp[h1])] at h
  by_cases h2:raOf m b p=0
  ·rw[if_neg (by simp[h2])] at h;exact ⟨h1,h2,h⟩
  ·rw[if_pos h2] at h;exact absurd h h2
 ·rw[if_pos h1] at h;exact absurd h h1
def swE (node:Int)(x fr:qAq)(back least k:Int):Int:=if hcE back least k≠0 then hcE back least k else if ¬ Nd node then 3 else if gkc x≠0 then gkc x else scE node fr back
def sw (node:Int)(x fr:qAq)(back least k:Int):Int×qAq×Int :=
 if swE node x fr back least k≠0 then (0,[],swE node x fr back least k) else
 if 8192<(enc node x fr back least k.toNat).length then (0,[],8) else (((enc node x fr back least k.toNat).length:Int),pk (enc node x fr back least k.toNat),0)
theorem qw4 {node back least k:Int}{x fr:qAq}(h:swE node x fr back least k=0):hcE back least k=0∧Nd node∧gkc x=0∧(0<back→gkc fr=0):=by
 unfold swE at h
 by_cases h1:hcE back least k=0
 ·rw[if_neg (by simp[h1])] at h
  by_cases h2:Nd node
  ·rw[if_neg (by simpa using h2)] at h
   by_cases h3:gkc x=0
   ·rw[if_neg (by simp[h3])] at h
    exact ⟨h1,h2,h3,(quu h).2⟩
   ·rw[if_pos h3] at h;exact absurd h h3
  ·rw[if_pos h2] at h;simp at h
 ·rw[if_pos h1] at h;exact absurd h h1
theorem qw3 {node back least k:Int}{x fr:qAq}(h1:hcE back least k=0)(h2:Nd node)(h3:gkc x=0)(h4:0<back→gkc fr=0):swE node x fr back least k=0:=by
 unfold swE
 rw[if_neg (by simp[h1]),if_neg (by simpa using h2),if_neg (by simp[h3])]
 exact qut h2 h4
theorem qsO {F:Nat}(hF:2000000≤F){node back least k:Int}{x fr:qAq}:qe7 F node x fr back least k=some (sw node x fr back least k):=by
 have hj:qa2 F node x fr back least k (swE node x fr back least k)=some (sw node x fr back least k):=by
  unfold qa2 sw
  by_cases h:swE node x fr back least k=0
  ·rw[if_neg (by simp[h]),if_neg (by simp[h])]
   obtain ⟨h1,h2,h3,h4⟩:=qw4 h
   obtain ⟨k1,k2,k',rfl,k3,k4⟩:=qbi h1
   obtain ⟨l,f,e,hr⟩:=qpH hF k3 k4 h2 h3 h4 k2
   rw[e]
   simp only[qxD,qxH]
   cases f with
   | true=>have:=hr.full rfl;rw[if_pos rfl,if_pos this]
   | false =>
    have e1:=hr.ok rfl
    have e2:=hr.len
    rw[e1] at e2 ⊢
    rw[if_neg (by simp),if_neg (by omega)]
  ·rw[if_pos (by simpa using h),if_pos h]
 unfold qe7
 rw[qjg]
 simp only[qxD]
 by_cases h1:hcE back least k=0
 ·rw[if_pos (by simpa using h1),qrn]
  unfold qa3
  by_cases h2:Nd node
  ·rw[if_neg (by simp[h2])]
   unfold v7
   rw[if_pos (by simpa using h1),qgl (by omega)]
   simp only[qxD]
   unfold v8
   by_cases h3:gkc x=0
   ·have e:swE node x fr back least k=scE node fr back:=by unfold swE;rw[if_neg (by simp[h1]),if_neg (by simpa using h2),if_neg (by simp[h3])]
    rw[if_pos (by simpa using h3),qsJ (by omega),← e]
    exact hj
   ·have e:swE node x fr back least k=gkc x:=by unfold swE;rw[if_neg (by simp[h1]),if_neg (by simpa using h2),if_pos h3]
    rw[if_neg (by simpa using h3),← e]
    exact hj
  ·have e:swE node x fr back least k=3:=by unfold swE;rw[if_neg (by simp[h1]),if_pos h2]
   rw[if_pos (by simp[h2])]
   unfold v7
   rw[if_neg (by decide)]
   unfold v8
   rw[if_neg (by decide),← e]
   exact hj
 ·have e:swE node x fr back least k=hcE back least k:=by unfold swE;rw[if_pos h1]
  rw[if_neg (by simpa using h1)]
  unfold qa3
  rw[if_neg (by simp)]
  unfold v7
  rw[if_neg (by simpa using h1)]
  unfold v8
  rw[if_neg (by simpa using h1),← e]
  exact hj
theorem qrA {k:Nat}(h1:1≤k)(h2:k≤16){node back least:Int}{x fr:qAq}(hn:Nd node)(hle:least=0∨2≤least∧least≤300)(hx:gkc x=0)(hfr:0<back→gkc fr=0)(P T:qAq)(hL:(enc node x fr back least k).length≤8192) :
  rdl (P++(enc node x fr back least k++T)) P.length node fr back least k=some (x,P.length+(enc node x fr back least k).length):=by
 unfold rdl
 rw[qrG h1 h2 hn hle hx hfr]
 simp only[qxD]
 rw[if_pos (by refine ⟨hx,hL,?_,?_⟩ <;> simp)]
theorem qiV {k:Nat}{l:qAq}{p:Nat}{node back least:Int}{fr:qAq}{r:qAq×Nat}(hl:Bit l)(h1:1≤k)(h:rdl l p node fr back least k=some r) :
  gkc r.1=0∧(enc node r.1 fr back least k).length≤8192∧p+(enc node r.1 fr back least k).length=r.2∧(l.drop p).take (enc node r.1 fr back least k).length=enc node r.1 fr back least k∧r.2≤l.length:=by
 unfold rdl at h
 rw[qyn] at h
 obtain ⟨r',h2,h⟩:=h
 split at h
 ·rename_i hc
  simp only[qxR] at h
  subst h
  exact ⟨hc.1,hc.2.1,hc.2.2.1,hc.2.2.2,quh hl h1 h2⟩
 ·simp at h
theorem qnq {node back least:Int}{x fr:qAq}{k:Nat}:Bit (enc node x fr back least k):=by
 have hn:Bit ([]:qAq):=by intro z hz;simp at hz
 have h1:∀ (bs:qAq) (b:Bool),Bit (encBs b bs):=by
  intro bs
  induction bs with
  | nil=>intro b;exact hn
  | cons n bs ih=>intro b;exact kw (qgF _) (ih true)
 have h2:∀ (R:List (Int×Int)) (b:Bool) (a:Int),Bit (encRs least b a R):=by
  intro R
  induction R with
  | nil=>intro b a;exact hn
  | cons r R ih=>intro b a;exact kw (qgF _) (kw (qgF _) (ih true _))
 unfold enc encL encB encR
 refine kw (qgF _) ?_
 split
 ·exact hn
 ·refine kw ?_ ?_
  ·split
   ·exact kw (qgF _) (h1 _ _)
   ·exact hn
  ·split
   ·exact hn
   ·refine kw ?_ (qr8 _ _)
    split
    ·exact kw (qgF _) (h2 _ _ _)
    ·exact hn
theorem qxv {node back least k:Int}{x fr:qAq}(h:swE node x fr back least k=0)(h2:(enc node x fr back least k.toNat).length≤8192):sw node x fr back least k=(((enc node x fr back least k.toNat).length:Int),pk (enc node x fr back least k.toNat),0):=by
 unfold sw;rw[if_neg (by simp[h]),if_neg (by omega)]
theorem qxt {l:qAq}(hl:Bit l)(hm:l.length≤8192){p:Nat}(hp:p≤l.length){node back least k:Int}{fr:qAq}(h1:hcE back least k=0)(h2:scE node fr back=0) :
  sr (l.length:Int) (pk l) (p:Int) node fr back least k=match rdl l p node fr back least k.toNat with | none=>([],0,1) | some r=>(r.1,(r.2:Int),0):=by
 have e:srE (l.length:Int) (pk l) (p:Int) node fr back least k=0:=by
  unfold srE
  rw[if_neg (by simp[h1]),qvM hm hp,if_neg (by simp),h2]
 unfold sr
 rw[if_neg (by simp[e])]
 simp only[qxH,qbS hl]
def rowE (n:Int):Int→qAq→Int
 | _,[]=>0
 | last,x::l=>if x<0∨n≤x then 3 else if x≤last then 4 else rowE n x l
def gE (n:Int):List (qAq)→Int
 | []=>0
 | l::g=>if rowE n (-1) l≠0 then rowE n (-1) l else gE n g
def gtot:List (qAq)→Nat
 | []=>0
 | l::g=>l.length+gtot g
def gchk (g:List (qAq)):Int:=if 100<g.length then 2 else if gE g.length g≠0 then gE g.length g else if 600<gtot g then 2 else 0
theorem qj1:∀ {n last:Int} {l:qAq},rowE n last l=0↔(l.Pairwise (·<·)∧∀ x∈l,last<x)∧∀ x∈l,0≤x∧x<n
 | n,last,[]=>by simp[rowE]
 | n,last,x::l=>by
  unfold rowE
  by_cases h1:x<0∨n≤x
  ·rw[if_pos h1]
   constructor
   ·intro h;simp at h
   ·rintro ⟨_,h⟩;have:=h x (by simp);omega
  ·rw[if_neg h1]
   by_cases h2:x≤last
   ·rw[if_pos h2]
    constructor
    ·intro h;simp at h
    ·rintro ⟨⟨_,h⟩,_⟩;have:=h x (by simp);omega
   ·rw[if_neg h2,qj1,qyJ]
    constructor
    ·rintro ⟨⟨a1,a2⟩,a3⟩
     refine ⟨⟨⟨a2,a1⟩,fun y hy=>?_⟩,fun y hy=>?_⟩
     ·rcases qxO.1 hy with rfl | hy
      ·omega
      ·have:=a2 y hy;omega
     ·rcases qxO.1 hy with rfl | hy
      ·omega
      ·exact a3 y hy
    ·rintro ⟨⟨⟨a1,a2⟩,a3⟩,a4⟩
     exact ⟨⟨a2,a1⟩,fun y hy=>a4 y (by simp[hy])⟩
theorem qj2 {n last:Int}:∀ {l:qAq},-1≤last→last<n→rowE n last l=0→last+1+l.length≤n
 | [],h1,h2,_=>by simp;omega
 | x::l,h1,h2,h=>by
  unfold rowE at h
  split at h
  ·simp at h
  ·split at h
   ·simp at h
   ·have:=qj2 (l:=l) (by omega) (by omega) h
    rw[qxX];omega
theorem qtu {n:Int}:∀ {g:List (qAq)},gE n g=0↔∀ l∈g,rowE n (-1) l=0
 | []=>by simp[gE]
 | l::g=>by
  unfold gE
  by_cases h:rowE n (-1) l=0
  ·rw[if_neg (by simp[h]),qtu];simp[h]
  ·rw[if_pos h];simp[h]
def Gr (g:List (qAq)):Prop:=g.length≤100∧(∀ l∈g,l.Pairwise (·<·)∧∀ x∈l,0≤x∧x<g.length)∧gtot g≤600
theorem qe9 {g:List (qAq)}:gchk g=0↔Gr g:=by
 unfold gchk Gr
 by_cases h1:100<g.length
 ·rw[if_pos h1];simp;omega
 ·rw[if_neg h1]
  by_cases h2:gE g.length g=0
  ·rw[if_neg (by simp[h2])]
   have h3:=qtu.1 h2
   have h4:∀ l∈g,l.Pairwise (·<·)∧∀ x∈l,0≤x∧x<(g.length:Int):=fun l hl=>by
    have:=qj1.1 (h3 l hl)
    exact ⟨this.1.1,this.2⟩
   by_cases h5:600<gtot g
   ·rw[if_pos h5];simp;omega
   ·rw[if_neg h5]
    exact ⟨fun _=>⟨by omega,h4,by omega⟩,fun _=>rfl⟩
  ·rw[if_pos h2]
   refine ⟨fun h=>absurd h h2,fun h=>absurd (qtu.2 fun l hl=>qj1.2 ⟨⟨(h.2.1 l hl).1,fun x hx=>?_⟩,(h.2.1 l hl).2⟩) h2⟩
   have:=(h.2.1 l hl).2 x hx;omega
theorem qnA {g:List (qAq)}(h:Gr g){l:qAq}(hl:l∈g):l.length≤100:=by
 have h1:=(h.2.1 l hl).2
 have h2:rowE g.length (-1) l=0:=qj1.2 ⟨⟨(h.2.1 l hl).1,fun x hx=>by have:=h1 x hx;omega⟩,h1⟩
 have:=qj2 (by omega) (by omega) h2
 have:=h.1
 omega
theorem qoI {F:Nat}{rec38:(Int×Int)→Option Int}{g:List (qAq)}{m i:Int}{l:qAq}(hg:g.length≤100):∀ (k j:Nat) (last:Int),102<k+j→(j:Int)≤last+1→last<g.length→-1≤last →
  yI F rec38 g m i l k (last,(j:Int))=if rowE g.length last (l.drop j)≠0 then some (rowE g.length last (l.drop j)) else qbE F rec38 m i l
 | 0,j,last,h,h1,h2,h3=>by omega
 | k+1,j,last,h,h1,h2,h3=>by
  show qbD F rec38 g m i l (yI F rec38 g m i l k) last (j:Int)=_
  unfold qbD
  by_cases hlt:j<l.length
  ·rw[if_pos (by simp;omega),qt,qxE hlt,qxI hlt]
   simp only[qxD]
   unfold rowE
   by_cases c1:l[j]<0∨(g.length:Int)≤l[j]
   ·rw[if_pos (by simpa using c1),if_pos c1,if_pos (by decide)]
   ·rw[if_neg (by simpa using c1),if_neg c1]
    by_cases c2:l[j]≤last
    ·rw[if_pos (by simpa using c2),if_pos c2,if_pos (by decide)]
    ·rw[if_neg (by simpa using c2),if_neg c2,qn (by omega)]
     exact qoI hg k (j+1) l[j] (by omega) (by omega) (by omega) (by omega)
  ·rw[if_neg (by simp;omega),qxN (by omega)]
   rw[if_neg (by simp[rowE])]
theorem ql1 {F:Nat}(hF:1000≤F){g:List (qAq)}(hg:g.length≤100):∀ (k i:Nat) (m:Nat),g.length<k+i→i≤g.length→m≤100*i →
  zi F g k ((m:Int),(i:Int))=if gE g.length (g.drop i)≠0 then some (gE g.length (g.drop i)) else if 600<m+gtot (g.drop i) then some 2 else some 0
 | 0,_,_,_,_,_=>by omega
 | k+1,i,m,h,hi,hm=>by
  show qbC F g (zi F g k) (m:Int) (i:Int)=_
  unfold qbC
  by_cases hlt:i<g.length
  ·rw[if_pos (by simp;omega),qt,qxE hlt,qxI hlt]
   simp only[qxD]
   have hin:=qoI (F:=F) (rec38:=zi F g k) (m:=(m:Int)) (i:=(i:Int)) (l:=g[i]) hg F 0 (-1) (by omega) (by omega) (by omega) (by omega)
   rw[qxT,show ((0:Nat):Int)=0 from rfl] at hin
   rw[hin]
   unfold gE gtot
   by_cases hr:rowE g.length (-1) g[i]=0
   ·have hlen:=qj2 (by omega) (by omega) hr
    have e:(if rowE (g.length:Int) (-1) g[i]≠0 then rowE (g.length:Int) (-1) g[i] else gE (g.length:Int) (g.drop (i+1)))=gE (g.length:Int) (g.drop (i+1)):=if_neg (by simp[hr])
    rw[if_neg (show ¬ rowE (g.length:Int) (-1) g[i]≠0 by simp[hr]),e]
    unfold qbE qdO
    rw[vg (by omega),qn (by omega),ql1 hF hg k (i+1) (m+g[i].length) (by omega) (by omega) (by omega),qyF]
   ·rw[if_pos (by simpa using hr)]
    have e:(if rowE (g.length:Int) (-1) g[i]≠0 then rowE (g.length:Int) (-1) g[i] else gE (g.length:Int) (g.drop (i+1)))=rowE (g.length:Int) (-1) g[i]:=if_pos hr
    rw[e,if_pos hr]
  ·rw[if_neg (by simp;omega),qxN (by omega)]
   unfold qdN
   rw[if_neg (show ¬ gE (g.length:Int) []≠0 by simp[gE])]
   by_cases h6:600<m
   ·rw[if_pos (by simp;omega),if_pos (by simpa[gtot] using h6)]
   ·rw[if_neg (by simp;omega),if_neg (by simpa[gtot] using h6)]
theorem qlQ {F:Nat}(hF:1000≤F){g:List (qAq)}:qez F g=some (gchk g):=by
 unfold qez gchk
 by_cases h:100<g.length
 ·rw[if_pos (by simp;omega),if_pos h]
 ·have:=ql1 hF (g:=g) (by omega) F 0 0 (by omega) (by omega) (by omega)
  rw[qxT,qyj,show ((0:Nat):Int)=0 from rfl] at this
  rw[if_neg (by simp;omega),if_neg h,this]
  split
  ·rfl
  ·split <;> rfl
theorem qmp {F:Nat}{rec138:(Int×Int)→Option Int}{g:List (qAq)}{i m:Nat}{l:qAq}(hg:g.length≤100)(hl:g[i]?=some l)(hm:m≤100000):∀ (k j:Nat),102<k+j→j≤l.length→((j:Int)≤(if 0<j then l.getD (j-1) 0 else -1)+1)→((if 0<j then l.getD (j-1) 0 else -1)<(g.length:Int)) →
  zk F rec138 g (i:Int) k (((m+j:Nat):Int),(j:Int))=if rowE g.length (if 0<j then l.getD (j-1) 0 else -1) (l.drop j)≠0 then some (rowE g.length (if 0<j then l.getD (j-1) 0 else -1) (l.drop j)) else kh F rec138 (i:Int) ((m+l.length:Nat):Int)
 | 0,j,h,hj,h1,h2=>by omega
 | k+1,j,h,hj,h1,h2=>by
  have hg0:0<g.length:=by have:=(qxQ.1 hl).1;omega
  show jJ F rec138 g (i:Int) (zk F rec138 g (i:Int) k) ((m+j:Nat):Int) (j:Int)=_
  unfold jJ
  rw[qt,hl]
  simp only[qxD]
  by_cases hlt:j<l.length
  ·have hrec:=qmp (F:=F) (rec138:=rec138) hg hl hm k (j+1) (by omega) (by omega)
   have hgd:l.getD (j+1-1) 0=l[j]:=by simp[List.getD,qxE hlt]
   rw[if_pos (show 0<j+1 by omega),hgd] at hrec
   rw[if_pos (by simp;omega),qt,qxE hlt,qxI hlt]
   simp only[qxD]
   unfold zu rowE
   rw[yO (by omega) (by omega)]
   simp only[qxD]
   by_cases c1:l[j]<0∨(g.length:Int)≤l[j]
   ·rw[if_pos (by simp;omega),if_pos c1,if_pos (by decide)]
   ·rw[if_neg (by simp;omega),if_neg c1]
    have hgo:kj F (zk F rec138 g (i:Int) k) ((m+j:Nat):Int) (j:Int) false=(if rowE (g.length:Int) l[j] (l.drop (j+1))≠0 then some (rowE (g.length:Int) l[j] (l.drop (j+1))) else kh F rec138 (i:Int) ((m+l.length:Nat):Int))→(l[j]≤(if 0<j then l.getD (j-1) 0 else -1))=False →
      kj F (zk F rec138 g (i:Int) k) ((m+j:Nat):Int) (j:Int) false=if (if l[j]≤(if 0<j then l.getD (j-1) 0 else -1) then 4 else rowE (g.length:Int) l[j] (l.drop (j+1)))≠0 then some (if l[j]≤(if 0<j then l.getD (j-1) 0 else -1) then 4 else rowE (g.length:Int) l[j] (l.drop (j+1))) else kh F rec138 (i:Int) ((m+l.length:Nat):Int):=by
     intro h3 h4
     simp only[h4,if_false]
     exact h3
    have hnext:(¬ l[j]≤(if 0<j then l.getD (j-1) 0 else -1))→kj F (zk F rec138 g (i:Int) k) ((m+j:Nat):Int) (j:Int) false=if rowE (g.length:Int) l[j] (l.drop (j+1))≠0 then some (rowE (g.length:Int) l[j] (l.drop (j+1))) else kh F rec138 (i:Int) ((m+l.length:Nat):Int):=by
     intro hn
     unfold kj
     rw[if_neg (by simp),qn (by omega),qn (by omega)]
     exact hrec (by omega) (by omega)
    by_cases hj0:0<j
    ·have hlt2:j-1<l.length:=by omega
     have hgd2:l.getD (j-1) 0=l[j-1]:=by simp[List.getD,qxE hlt2]
     rw[if_pos (by simp;omega),yO (by omega) (by omega),qt,qxE hlt2]
     simp only[qxD]
     by_cases c2:l[j]≤l[j-1]
     ·rw[decide_eq_true c2,if_pos hj0,hgd2,if_pos c2,if_pos (by decide)]
      rfl
     ·rw[decide_eq_false c2]
      exact hgo (hnext (by rw[if_pos hj0,hgd2];exact c2)) (by rw[if_pos hj0,hgd2];exact eq_false c2)
    ·have:j=0:=by omega
     subst this
     rw[if_neg (by simp)]
     exact hgo (hnext (by simp;omega)) (by simp;omega)
  ·rw[if_neg (by simp;omega),qxN (by omega),show m+j=m+l.length from by omega,if_neg (by simp[rowE])]
theorem qkR {F:Nat}(hF:1000≤F){g:List (qAq)}(hg:g.length≤100):∀ (k i:Nat) (m:Nat),g.length<k+i→i≤g.length→m≤100*i →
  qY F g k ((m:Int),(i:Int))=if gE g.length (g.drop i)≠0 then some (gE g.length (g.drop i)) else if 600<m+gtot (g.drop i) then some 2 else some 0
 | 0,_,_,_,_,_=>by omega
 | k+1,i,m,h,hi,hm=>by
  show jI F g (qY F g k) (m:Int) (i:Int)=_
  unfold jI
  by_cases hlt:i<g.length
  ·rw[if_pos (by simp;omega),qxI hlt]
   have hin:=qmp (F:=F) (rec138:=qY F g k) (m:=m) (i:=i) (l:=g[i]) hg (qxE hlt) (by omega) F 0 (by omega) (by omega) (by simp) (by simp;omega)
   rw[qxT,show ((0:Nat):Int)=0 from rfl,qyO,if_neg (show ¬ 0<0 by omega)] at hin
   rw[hin]
   unfold gE gtot
   by_cases hr:rowE g.length (-1) g[i]=0
   ·have hlen:=qj2 (by omega) (by omega) hr
    have e:(if rowE (g.length:Int) (-1) g[i]≠0 then rowE (g.length:Int) (-1) g[i] else gE (g.length:Int) (g.drop (i+1)))=gE (g.length:Int) (g.drop (i+1)):=if_neg (by simp[hr])
    rw[if_neg (show ¬ rowE (g.length:Int) (-1) g[i]≠0 by simp[hr]),e]
    unfold kh
    rw[qn (by omega),qkR hF hg k (i+1) (m+g[i].length) (by omega) (by omega) (by omega),qyF]
   ·have e:(if rowE (g.length:Int) (-1) g[i]≠0 then rowE (g.length:Int) (-1) g[i] else gE (g.length:Int) (g.drop (i+1)))=rowE (g.length:Int) (-1) g[i]:=if_pos hr
    rw[if_pos (by simpa using hr),e,if_pos hr]
  ·rw[if_neg (by simp;omega),qxN (by omega)]
   unfold qdh
   rw[if_neg (show ¬ gE (g.length:Int) []≠0 by simp[gE])]
   by_cases h6:600<m
   ·rw[if_pos (by simp;omega),if_pos (by simpa[gtot] using h6)]
   ·rw[if_neg (by simp;omega),if_neg (by simpa[gtot] using h6)]
theorem qkS {F:Nat}(hF:1000≤F){g:List (qAq)}:qdx F g=some (gchk g):=by
 unfold qdx gchk
 by_cases h:100<g.length
 ·rw[if_pos (by simp;omega),if_pos h]
 ·have:=qkR hF (g:=g) (by omega) F 0 0 (by omega) (by omega) (by omega)
  rw[qxT,qyj,show ((0:Nat):Int)=0 from rfl] at this
  rw[if_neg (by simp;omega),if_neg h,this]
  split
  ·rfl
  ·split <;> rfl
def pkH (B:Int)(r:Nat):qAq:=if 0<B then ga r else []
def pkF (g:List (qAq))(i r:Nat):qAq:=if 0<r then g.getD (i-r) [] else []
def pkW (g:List (qAq))(B least:Int)(k i r:Nat):qAq:=pkH B r++enc (i:Int) (g.getD i []) (pkF g i r) (r:Int) least k
def bwy (f:Nat→qAq):Nat→Nat×qAq
 | 0=>(0,f 0)
 | n+1=>if (f (n+1)).length<(bwy f n).2.length then (n+1,f (n+1)) else bwy f n
theorem qs8 (f:Nat→qAq):∀ n:Nat,(bwy f n).1≤n∧(bwy f n).2=f (bwy f n).1
 | 0=>⟨qxY _,rfl⟩
 | n+1=>by
  have:=qs8 f n
  unfold bwy
  split
  ·exact ⟨qxY _,rfl⟩
  ·exact ⟨by omega,this.2⟩
theorem qqW (f:Nat→qAq):∀ {n r:Nat},r≤n→(bwy f n).2.length≤(f r).length
 | 0,r,h=>by
  have:r=0:=by omega
  subst this;exact qxY _
 | n+1,r,h=>by
  unfold bwy
  by_cases hr:r=n+1
  ·subst hr
   split
   ·exact qxY _
   ·omega
  ·have:=qqW f (n:=n) (r:=r) (by omega)
   split
   ·simp only;omega
   ·exact this
theorem ql0 {f f':Nat→qAq}:∀ {n:Nat},(∀ r,r≤n→f r=f' r)→bwy f n=bwy f' n
 | 0,h=>by unfold bwy;rw[h 0 (qxY _)]
 | n+1,h=>by
  unfold bwy
  rw[h (n+1) (qxY _),ql0 (n:=n) fun r hr=>h r (by omega)]
def pkN (g:List (qAq))(B least:Int)(k i:Nat):Nat×qAq:=bwy (pkW g B least k i) (min B.toNat i)
def pkA (g:List (qAq))(B least:Int)(k:Nat):Nat→qAq×qAq×qAq
 | 0=>([],[],[])
 | n+1=>((pkA g B least k n).1++(pkN g B least k n).2,(pkA g B least k n).2.1++[((pkN g B least k n).1:Int)],(pkA g B least k n).2.2++[((pkA g B least k n).1.length:Int)])
def pkE (g:List (qAq))(B least k:Int):Int:=if gchk g≠0 then gchk g else if hcE B least k≠0 then hcE B least k else if 8192<(pkA g B least k.toNat g.length).1.length then 8 else 0
theorem qfD {g:List (qAq)}{B least k:Int}(h:pkE g B least k=0):gchk g=0∧hcE B least k=0∧(pkA g B least k.toNat g.length).1.length≤8192:=by
 unfold pkE at h
 by_cases h1:gchk g=0
 ·rw[if_neg (by simp[h1])] at h
  by_cases h2:hcE B least k=0
  ·rw[if_neg (by simp[h2])] at h
   by_cases h3:8192<(pkA g B least k.toNat g.length).1.length
   ·rw[if_pos h3] at h;simp at h
   ·exact ⟨h1,h2,by omega⟩
  ·rw[if_pos h2] at h;exact absurd h h2
 ·rw[if_pos h1] at h;exact absurd h h1
theorem qtU {g:List (qAq)}{B least k:Int}(h1:gchk g=0)(h2:hcE B least k=0)(h3:(pkA g B least k.toNat g.length).1.length≤8192):pkE g B least k=0:=by
 unfold pkE
 rw[if_neg (by simp[h1]),if_neg (by simp[h2]),if_neg (by omega)]
theorem qnO {g:List (qAq)}{B least:Int}{k:Nat}:∀ {n i:Nat},i≤n→∃ R,(pkA g B least k n).1=(pkA g B least k i).1++R
 | 0,i,h=>by
  have:i=0:=by omega
  subst this;exact ⟨[],by simp⟩
 | n+1,i,h=>by
  by_cases hi:i=n+1
  ·subst hi;exact ⟨[],by simp⟩
  ·obtain ⟨R,hR⟩:=qnO (g:=g) (B:=B) (least:=least) (k:=k) (n:=n) (i:=i) (by omega)
   exact ⟨R++(pkN g B least k n).2,by rw[pkA,hR];simp⟩
theorem qiS {g:List (qAq)}{B least:Int}{k:Nat}:∀ n:Nat,(pkA g B least k n).2.1.length=n∧(pkA g B least k n).2.2.length=n
 | 0=>⟨rfl,rfl⟩
 | n+1=>by
  have:=qiS (g:=g) (B:=B) (least:=least) (k:=k) n
  simp only[pkA,qxF,qzU]
  omega
theorem qiT {g:List (qAq)}{B least:Int}{k n i:Nat}(h:i≤n):(pkA g B least k i).1.length≤(pkA g B least k n).1.length:=by
 obtain ⟨R,hR⟩:=qnO (g:=g) (B:=B) (least:=least) (k:=k) h
 rw[hR,qxF];omega
theorem qgO {g:List (qAq)}{B least:Int}{k i:Nat}:(pkN g B least k i).1≤min B.toNat i∧(pkN g B least k i).2=pkW g B least k i (pkN g B least k i).1:=qs8 _ _
theorem qo8 {g:List (qAq)}{B least:Int}{k n i:Nat}(h:i<n):∃ R,(pkA g B least k n).1=(pkA g B least k i).1++((pkH B (pkN g B least k i).1++enc (i:Int) (g.getD i []) (pkF g i (pkN g B least k i).1) ((pkN g B least k i).1:Int) least k)++R):=by
 obtain ⟨R,hR⟩:=qnO (g:=g) (B:=B) (least:=least) (k:=k) (n:=n) (i:=i+1) h
 refine ⟨R,?_⟩
 rw[hR,pkA]
 have:=(qgO (g:=g) (B:=B) (least:=least) (k:=k) (i:=i)).2
 unfold pkW at this
 rw[this]
 simp only[qxG]
theorem qwL {g:List (qAq)}(h:Gr g){l:qAq}(hl:l∈g):gkc l=0:=by
 have h1:=h.2.1 l hl
 have h2:=qnA h hl
 have h3:=h.1
 refine zL.2 ⟨by omega,qnW h1.1 (fun z hz=>?_) fun z hz=>?_⟩
 ·have:=h1.2 z hz;omega
 ·have:=h1.2 z hz;unfold Nd;omega
theorem qim {g:List (qAq)}(h:Gr g)(i:Nat):gkc (g.getD i [])=0:=by
 by_cases hi:i<g.length
 ·rw[qyb,qxE hi]
  exact qwL h (qx8 hi)
 ·rw[qyb,qx2 (by omega)]
  decide
theorem qhH {g:List (qAq)}(h:Gr g)(i r:Nat):gkc (pkF g i r)=0:=by
 unfold pkF
 split
 ·exact qim h _
 ·decide
def pkO (l:qAq)(B:Int)(node p:Nat):Option (Int×Nat):=if B=0 then some (0,p) else rgam l p (min B (node:Int))
def pkR (l:qAq)(B least:Int)(k:Nat):Nat→List (qAq)→Nat→Option (List (qAq)×Nat)
 | 0,out,p=>some (out,p)
 | m+1,out,p=>(pkO l B out.length p).bind fun o=>(rdl l o.2 (out.length:Int) (pkF out out.length o.1.toNat) o.1 least k).bind fun r=>pkR l B least k m (out++[r.1]) r.2
theorem qqJ {g:List (qAq)}{i:Nat}(h:i<g.length):g.take i++[g.getD i []]=g.take (i+1):=by
 rw[qzb,qyb,qxE h]
 rfl
theorem qtV {g:List (qAq)}{i r:Nat}(h:r≤i)(_hi:i≤g.length):pkF (g.take i) i r=pkF g i r:=by
 unfold pkF
 split
 ·rw[qyb,qyb,List.getElem?_take,if_pos (by omega)]
 ·rfl
theorem qj0 {g:List (qAq)}(hg:Gr g){B least:Int}{k:Nat}(hh:hcE B least (k:Int)=0)(hl:(pkA g B least k g.length).1.length≤8192)(T:qAq):∀ (m i:Nat),i+m=g.length →
  pkR ((pkA g B least k g.length).1++T) B least k m (g.take i) (pkA g B least k i).1.length=some (g,(pkA g B least k g.length).1.length)
 | 0,i,h=>by
  have:i=g.length:=by omega
  subst this
  simp[pkR]
 | m+1,i,h=>by
  have hi:i<g.length:=by omega
  obtain ⟨k1,k2,k',hk,k3,k4⟩:=qbi hh
  have hkk:k=k':=by omega
  subst hkk
  obtain ⟨hr,_⟩:=qgO (g:=g) (B:=B) (least:=least) (k:=k) (i:=i)
  have hgl:=hg.1
  have hti:(g.take i).length=i:=by rw[qx1];omega
  obtain ⟨R,hR⟩:=qo8 (g:=g) (B:=B) (least:=least) (k:=k) hi
  have hnext:=qj0 hg hh hl T m (i+1) (by omega)
  have hA:(pkA g B least k (i+1)).1.length=(pkA g B least k i).1.length+(pkH B (pkN g B least k i).1).length+(enc (i:Int) (g.getD i []) (pkF g i (pkN g B least k i).1) ((pkN g B least k i).1:Int) least k).length:=by
   have:=(qgO (g:=g) (B:=B) (least:=least) (k:=k) (i:=i)).2
   rw[pkA,this]
   unfold pkW
   simp only[qxF];omega
  have hO:pkO ((pkA g B least k g.length).1++T) B i (pkA g B least k i).1.length=some (((pkN g B least k i).1:Int),(pkA g B least k i).1.length+(pkH B (pkN g B least k i).1).length):=by
   unfold pkO pkH
   by_cases hB:B=0
   ·have:(pkN g B least k i).1=0:=by rw[hB] at hr ⊢;simp at hr;exact hr
    rw[if_pos hB,this,if_neg (by omega)]
    simp
   ·rw[if_neg hB,if_pos (by omega)]
    rw[hR]
    unfold pkH
    rw[if_pos (by omega)]
    simp only[qxG]
    exact qfc (by omega) (by omega) _ _
  unfold pkR
  rw[hti,hO]
  simp only[qxD,qxH]
  rw[qtV (by omega) (by omega)]
  have hE:(enc (i:Int) (g.getD i []) (pkF g i (pkN g B least k i).1) ((pkN g B least k i).1:Int) least k).length≤8192:=by
   have:=qiT (g:=g) (B:=B) (least:=least) (k:=k) (show i+1≤g.length from hi)
   omega
  have hD:=qrA (k:=k) k3 k4 (node:=(i:Int)) (back:=((pkN g B least k i).1:Int)) (least:=least) (x:=g.getD i []) (fr:=pkF g i (pkN g B least k i).1) (by unfold Nd;omega) k2 (qim hg i) (fun _=>qhH hg _ _) ((pkA g B least k i).1++pkH B (pkN g B least k i).1) (R++T) hE
  rw[hR]
  simp only[qxG,qxF] at hD ⊢
  rw[hD]
  simp only[qxD]
  rw[qqJ hi]
  rw[hR] at hnext
  simp only[qxG,qxF] at hnext
  rw[← hnext,hA]
theorem qtC {B least k:Int}{r:Nat}(h:hcE B least k=0)(hr:(r:Int)≤B):hcE (r:Int) least k=0:=by
 unfold hcE at h ⊢
 by_cases hb:hcB B least k
 ·rw[if_pos hb] at h;simp at h
 ·rw[if_neg (by unfold hcB at hb ⊢;omega)]
theorem qr3 {F:Nat}(hF:2000000≤F){A:List (qAq)}{x fr H:qAq}{r i k:Nat}{least:Int}(hA:A.length=i)(hi:i≤100)(hx:gkc x=0)(hfr:gkc fr=0)(hh:hcE (r:Int) least (k:Int)=0)(hH:Bit H)(hHl:H.length≤100) :
  qb2 F A x (r:Int) least (k:Int) (H.length:Int) (pk H) fr=some (if (H++enc (i:Int) x fr (r:Int) least k).length≤8192 then ((r:Int),((H++enc (i:Int) x fr (r:Int) least k).length:Int),pk (H++enc (i:Int) x fr (r:Int) least k),true) else (0,0,[],false)):=by
 unfold qb2
 rw[qsO hF,hA]
 simp only[qxD]
 have hE:swE (i:Int) x fr (r:Int) least (k:Int)=0:=qw3 hh (by unfold Nd;omega) hx (fun _=>hfr)
 rw[qxF]
 by_cases h1:(enc (i:Int) x fr (r:Int) least k).length≤8192
 ·have hs:=qxv hE (by rw[qxH];exact h1)
  rw[qxH] at hs
  rw[hs]
  simp only
  rw[qw (by omega) (by omega)]
  by_cases h2:H.length+(enc (i:Int) x fr (r:Int) least k).length≤8192
  ·rw[if_neg (by simp;omega),if_pos h2,qnk (by omega) (qfF hH) (qfF qnq) (qiR (by omega)) (qiR h1),qbS hH,qbS qnq]
   rfl
  ·rw[if_pos (by simp;omega),if_neg h2]
 ·have hs:sw (i:Int) x fr (r:Int) least (k:Int)=(0,[],8):=by
   unfold sw
   rw[if_neg (by simp[hE]),qxH,if_pos (by omega)]
  rw[hs,if_pos (by simp),if_neg (by omega)]
theorem qwl {F:Nat}(hF:2000000≤F){g:List (qAq)}(hg:Gr g){B least:Int}{k i r:Nat}(hh:hcE B least (k:Int)=0)(hi:i≤g.length)(hr:r≤min B.toNat i) :
  qfR F (g.take i) (g.getD i []) (r:Int) B least (k:Int)=some (if (pkW g B least k i r).length≤8192 then ((r:Int),((pkW g B least k i r).length:Int),pk (pkW g B least k i r),true) else (0,0,[],false)):=by
 have hgl:=hg.1
 have hti:(g.take i).length=i:=by rw[qx1];omega
 obtain ⟨k1,-,-⟩:=qbi hh
 have hh':hcE (r:Int) least (k:Int)=0:=qtC hh (by omega)
 have hj:∀ H:qAq,Bit H→H.length≤100→qb1 F (g.take i) (g.getD i []) (r:Int) least (k:Int) (H.length:Int) (pk H)=some (if (H++enc (i:Int) (g.getD i []) (pkF g i r) (r:Int) least k).length≤8192 then ((r:Int),((H++enc (i:Int) (g.getD i []) (pkF g i r) (r:Int) least k).length:Int),pk (H++enc (i:Int) (g.getD i []) (pkF g i r) (r:Int) least k),true) else (0,0,[],false)):=by
  intro H hH hHl
  unfold qb1
  by_cases h0:0<r
  ·rw[if_pos (by simpa using h0),hti,qy (by omega) (by omega),show ((i:Int)-(r:Int))=((i-r:Nat):Int) from by omega,qt,List.getElem?_take,if_pos (by omega),qxE (show i-r<g.length by omega)]
   simp only[qxD]
   have e:g[i-r]'(by omega)=pkF g i r:=by
    unfold pkF
    rw[if_pos h0,qyb,qxE (show i-r<g.length by omega)]
    rfl
   rw[e]
   exact qr3 hF hti (by omega) (qim hg i) (qhH hg i r) hh' hH hHl
  ·rw[if_neg (by simpa using h0)]
   have e:pkF g i r=[]:=by unfold pkF;rw[if_neg h0]
   rw[e]
   exact qr3 hF hti (by omega) (qim hg i) (by decide) hh' hH hHl
 unfold qfR pkW pkH
 by_cases hB:0<B
 ·have hga:=qdX (n:=r) (by omega)
  rw[if_pos (by simpa using hB),if_pos hB,zz (by omega),qjE (by omega) (by omega)]
  simp only[qxD]
  exact hj (ga r) (qgF r) (by omega)
 ·rw[if_neg (by simpa using hB),if_neg hB]
  exact hj [] (by intro z hz;simp at hz) (by simp)
def bst (f:Nat→qAq)(j:Nat):Bool×Int×Int×qAq:=if j=0 then (false,0,0,[]) else if (bwy f (j-1)).2.length≤8192 then (true,((bwy f (j-1)).1:Int),((bwy f (j-1)).2.length:Int),pk (bwy f (j-1)).2) else (false,0,0,[])
theorem qs4 {F:Nat}(hF:2000000≤F){g:List (qAq)}(hg:Gr g){B least:Int}{k i:Nat}(hh:hcE B least (k:Int)=0)(hi:i≤g.length):∀ (n j:Nat),min B.toNat i+1<n+j→j≤min B.toNat i+1 →
  ke F (g.take i) (g.getD i []) B least (k:Int) n ((bst (pkW g B least k i) j).1,(j:Int),(bst (pkW g B least k i) j).2.1,(bst (pkW g B least k i) j).2.2.1,(bst (pkW g B least k i) j).2.2.2)=some (if (pkN g B least k i).2.length≤8192 then (((pkN g B least k i).1:Int),((pkN g B least k i).2.length:Int),pk (pkN g B least k i).2,true) else (0,0,[],false))
 | 0,_,_,_=>by omega
 | n+1,j,h,hj=>by
  have hgl:=hg.1
  have hti:(g.take i).length=i:=by rw[qx1];omega
  obtain ⟨k1,-,-⟩:=qbi hh
  show qc6 F (g.take i) (g.getD i []) B least (k:Int) (ke F (g.take i) (g.getD i []) B least (k:Int) n) (bst (pkW g B least k i) j).1 (j:Int) (bst (pkW g B least k i) j).2.1 (bst (pkW g B least k i) j).2.2.1 (bst (pkW g B least k i) j).2.2.2=_
  unfold qc6
  have hmin:imin B ((g.take i).length:Int)=((min B.toNat i:Nat):Int):=by
   rw[hti];unfold imin;split <;> omega
  rw[hmin,qw (by omega) (by omega)]
  by_cases hlt:j<min B.toNat i+1
  ·rw[if_pos (by simp;omega),qwl hF hg hh hi (by omega)]
   simp only[qxD]
   have hrec:=qs4 hF hg hh hi n (j+1) (by omega) (by omega)
   have hnew:(pkW g B least k i j).length≤8192→bwy (pkW g B least k i) j=(j,pkW g B least k i j)→yT F (ke F (g.take i) (g.getD i []) B least (k:Int) n) (j:Int) true (j:Int) ((pkW g B least k i j).length:Int) (pk (pkW g B least k i j))=some (if (pkN g B least k i).2.length≤8192 then (((pkN g B least k i).1:Int),((pkN g B least k i).2.length:Int),pk (pkN g B least k i).2,true) else (0,0,[],false)):=by
    intro h1 h2
    unfold yT
    rw[qn (by omega),← hrec]
    unfold bst
    rw[if_neg (by omega),qx6,h2,if_pos h1]
   have hold:bst (pkW g B least k i) (j+1)=bst (pkW g B least k i) j→yT F (ke F (g.take i) (g.getD i []) B least (k:Int) n) (j:Int) (bst (pkW g B least k i) j).1 (bst (pkW g B least k i) j).2.1 (bst (pkW g B least k i) j).2.2.1 (bst (pkW g B least k i) j).2.2.2=some (if (pkN g B least k i).2.length≤8192 then (((pkN g B least k i).1:Int),((pkN g B least k i).2.length:Int),pk (pkN g B least k i).2,true) else (0,0,[],false)):=by
    intro h1
    unfold yT
    rw[qn (by omega),← hrec,h1]
   unfold qc7
   by_cases hl:(pkW g B least k i j).length≤8192
   ·rw[if_pos hl]
    simp only[if_true]
    by_cases h0:j=0
    ·subst h0
     rw[if_pos (by simp[bst])]
     exact hnew hl rfl
    ·obtain ⟨q,rfl⟩:∃ q,j=q+1:=⟨j-1,by omega⟩
     by_cases hb:(bwy (pkW g B least k i) q).2.length≤8192
     ·have e:bst (pkW g B least k i) (q+1)=(true,((bwy (pkW g B least k i) q).1:Int),((bwy (pkW g B least k i) q).2.length:Int),pk (bwy (pkW g B least k i) q).2):=by
       unfold bst
       rw[if_neg (by omega),qx6,if_pos hb]
      by_cases hc:(pkW g B least k i (q+1)).length<(bwy (pkW g B least k i) q).2.length
      ·rw[if_pos (by rw[e];simp;omega)]
       exact hnew hl (by rw[bwy,if_pos hc])
      ·rw[if_neg (by rw[e];simp;omega)]
       refine hold ?_
       rw[e]
       unfold bst
       rw[if_neg (by omega),qx6,bwy,if_neg hc,if_pos hb]
     ·have e:bst (pkW g B least k i) (q+1)=(false,0,0,[]):=by
       unfold bst
       rw[if_neg (by omega),qx6,if_neg hb]
      rw[if_pos (by rw[e];simp)]
      exact hnew hl (by rw[bwy,if_pos (by omega)])
   ·rw[if_neg hl]
    simp only[qxP,if_false]
    refine hold ?_
    unfold bst
    rw[if_neg (by omega),qx6]
    by_cases h0:j=0
    ·subst h0
     rw[if_pos rfl,bwy,if_neg hl]
    ·obtain ⟨q,rfl⟩:∃ q,j=q+1:=⟨j-1,by omega⟩
     rw[if_neg (show ¬ q+1=0 by omega),qx6,bwy]
     by_cases hc:(pkW g B least k i (q+1)).length<(bwy (pkW g B least k i) q).2.length
     ·rw[if_pos hc,if_neg hl,if_neg (by omega)]
     ·rw[if_neg hc]
  ·rw[if_neg (by simp;omega)]
   have:j=min B.toNat i+1:=by omega
   subst this
   unfold qft bst pkN
   rw[if_neg (by omega),qx6]
   split <;> rfl
theorem qvb {F:Nat}(hF:2000000≤F){g:List (qAq)}(hg:Gr g){B least:Int}{k i:Nat}(hh:hcE B least (k:Int)=0)(hi:i≤g.length) :
  qfQ F (g.take i) (g.getD i []) B least (k:Int)=some (if (pkN g B least k i).2.length≤8192 then (((pkN g B least k i).1:Int),((pkN g B least k i).2.length:Int),pk (pkN g B least k i).2,true) else (0,0,[],false)):=by
 have hgl:=hg.1
 have:=qs4 hF hg hh hi F 0 (by omega) (qx7 _)
 exact this
theorem qvJ {g:List (qAq)}{B least:Int}{k i r:Nat}:Bit (pkW g B least k i r):=by
 unfold pkW pkH
 refine kw ?_ qnq
 split
 ·exact qgF r
 ·intro z hz;simp at hz
theorem qnP {g:List (qAq)}{B least:Int}{k i:Nat}:Bit (pkN g B least k i).2:=by
 rw[qgO.2];exact qvJ
theorem qfb {g:List (qAq)}{B least:Int}{k:Nat}:∀ n:Nat,Bit (pkA g B least k n).1
 | 0=>by intro z hz;simp[pkA] at hz
 | n+1=>by unfold pkA;exact kw (qfb n) qnP
theorem qfA {g:List (qAq)}{i:Nat}(h:i<g.length):idx g (i:Int)=some (g.getD i []):=by
 rw[qt,qyb,qxE h]
 rfl
theorem qrw {F:Nat}(hF:2000000≤F){g:List (qAq)}(hg:Gr g){N B least:Int}{k:Nat}(hh:hcE B least (k:Int)=0):∀ (j i:Nat),g.length<j+i→i≤g.length→(pkA g B least k i).1.length≤8192 →
  ∃ z,qN F N B least (k:Int) g j ((i:Int),((pkA g B least k i).1.length:Int),pk (pkA g B least k i).1,(pkA g B least k i).2.1,(pkA g B least k i).2.2)=some z∧z.1=decide ((pkA g B least k g.length).1.length≤8192) ∧
   (z.1=true→z=(true,N,B,least,(k:Int),((pkA g B least k g.length).1.length:Int),pk (pkA g B least k g.length).1,(pkA g B least k g.length).2.1,(pkA g B least k g.length).2.2))
 | 0,_,_,_,_=>by omega
 | j+1,i,h,hi,hA=>by
  have hgl:=hg.1
  show ∃ z,va F N B least (k:Int) g (qN F N B least (k:Int) g j) (i:Int) ((pkA g B least k i).1.length:Int) (pk (pkA g B least k i).1) (pkA g B least k i).2.1 (pkA g B least k i).2.2=some z∧_
  unfold va
  by_cases hlt:i<g.length
  ·have e0:sub g 0 (i:Int)=some (g.take i):=by
    have:=qi3 (l:=g) (i:=0) (j:=i) (by omega) hi
    simpa using this
   have hstep:(pkA g B least k (i+1)).1.length=(pkA g B least k i).1.length+(pkN g B least k i).2.length:=by rw[pkA,qxF]
   have hmono:=qiT (g:=g) (B:=B) (least:=least) (k:=k) (show i+1≤g.length from hlt)
   rw[if_pos (by simp;omega),qfA hlt,e0]
   simp only[qxD]
   rw[qvb hF hg hh hi]
   simp only[qxD]
   unfold vb
   by_cases h1:(pkN g B least k i).2.length≤8192
   ·rw[if_pos h1]
    simp only[qys,qxP,if_false]
    rw[qw (by omega) (by omega)]
    unfold kK
    by_cases h2:(pkA g B least k i).1.length+(pkN g B least k i).2.length≤8192
    ·rw[if_neg (by simp;omega)]
     have hl:=qiS (g:=g) (B:=B) (least:=least) (k:=k) i
     rw[qT (by rw[hl.1];simp;omega)]
     simp only[qxD]
     rw[qT (by rw[hl.2];simp;omega)]
     simp only[qxD]
     unfold kL
     rw[qnk (by omega) (qfF (qfb i)) (qfF qnP) (qiR hA) (qiR h1),qbS (qfb i),qbS qnP]
     simp only[qxD]
     have:=qrw hF hg (N:=N) hh j (i+1) (by omega) (by omega) (by omega)
     rw[qn (by omega),← hstep]
     exact this
    ·rw[if_pos (by simp;omega)]
     exact ⟨_,rfl,by simp only;rw[decide_eq_false (by omega)],fun h=>by simp at h⟩
   ·rw[if_neg h1]
    simp only[qzA,if_true]
    unfold kK
    rw[if_pos rfl]
    exact ⟨_,rfl,by simp only;rw[decide_eq_false (by omega)],fun h=>by simp at h⟩
  ·rw[if_neg (by simp;omega)]
   have:i=g.length:=by omega
   subst this
   unfold qaF
   exact ⟨_,rfl,by simp only;rw[decide_eq_true hA],fun _=>rfl⟩
theorem qmk {F:Nat}(hF:2000000≤F){g:List (qAq)}{B least k:Int} :
  ∃ z1 z2 z3 z4 z5 z6 z7 z8,qcI F g B least k=some (z1,z2,z3,z4,z5,z6,z7,z8,pkE g B least k) ∧
   (pkE g B least k=0→(z1,z2,z3,z4,z5,z6,z7,z8)=((g.length:Int),B,least,k,((pkA g B least k.toNat g.length).1.length:Int),pk (pkA g B least k.toNat g.length).1,(pkA g B least k.toNat g.length).2.1,(pkA g B least k.toNat g.length).2.2)):=by
 unfold qcI
 rw[qlQ (by omega)]
 simp only[qxD]
 by_cases h1:gchk g=0
 ·rw[if_pos (by simpa using h1),qjg]
  simp only[qxD]
  unfold j8
  by_cases h2:hcE B least k=0
  ·rw[if_pos (by simpa using h2)]
   obtain ⟨_,_,k',rfl,_,_⟩:=qbi h2
   have hg:=qe9.1 h1
   have hgl:=hg.1
   obtain ⟨z,hz,hz1,hz2⟩:=qrw hF hg (N:=(g.length:Int)) h2 F 0 (by omega) (qx7 _) (by simp[pkA])
   have hz':qdk F (g.length:Int) B least (k':Int) 0 [] [] [] g=some z:=by
    have e:pk ([]:qAq)=[]:=by simp[pk]
    simp only[pkA,qyA,e] at hz
    exact hz
   rw[hz']
   simp only[qxD]
   unfold vu vt
   rw[qxH]
   by_cases h3:(pkA g B least k' g.length).1.length≤8192
   ·rw[decide_eq_true h3] at hz1
    have:=hz2 hz1
    have hE:pkE g B least (k':Int)=0:=qtU h1 h2 (by rw[qxH];exact h3)
    rw[hE,h2]
    subst this
    exact ⟨_,_,_,_,_,_,_,_,rfl,fun _=>rfl⟩
   ·rw[decide_eq_false h3] at hz1
    have hE:pkE g B least (k':Int)=8:=by
     unfold pkE
     rw[if_neg (by simp[h1]),if_neg (by simp[h2]),if_pos (by rw[qxH];omega)]
    rw[hE,hz1]
    exact ⟨_,_,_,_,_,_,_,_,rfl,fun h=>by simp at h⟩
  ·have hE:pkE g B least k=hcE B least k:=by
    unfold pkE
    rw[if_neg (by simp[h1]),if_pos h2]
   rw[if_neg (by simpa using h2),hE]
   unfold vu vt
   exact ⟨_,_,_,_,_,_,_,_,rfl,fun h=>absurd h h2⟩
 ·have hE:pkE g B least k=gchk g:=by
   unfold pkE
   rw[if_pos h1]
  rw[if_neg (by simpa using h1),hE]
  unfold j8 vu vt
  rw[if_neg (by simpa using h1)]
  exact ⟨_,_,_,_,_,_,_,_,rfl,fun h=>absurd h h1⟩
def pwr (g:List (qAq))(B least k:Int):Int×Int×Int×Int×Int×qAq×Int :=
 if pkE g B least k≠0 then (0,0,0,0,0,[],pkE g B least k) else ((g.length:Int),B,least,k,((pkA g B least k.toNat g.length).1.length:Int),pk (pkA g B least k.toNat g.length).1,0)
def ptl (g:List (qAq))(B least k:Int):qAq×qAq×Int :=
 if pkE g B least k≠0 then ([],[],pkE g B least k) else ((pkA g B least k.toNat g.length).2.1,(pkA g B least k.toNat g.length).2.2,0)
theorem qmn {F:Nat}(hF:2000000≤F){g:List (qAq)}{B least k:Int}:qdQ F g B least k=some (pwr g B least k):=by
 obtain ⟨z1,z2,z3,z4,z5,z6,z7,z8,hz,hz2⟩:=qmk hF (g:=g) (B:=B) (least:=least) (k:=k)
 unfold qdQ pwr
 rw[hz]
 simp only[qxD]
 by_cases h:pkE g B least k=0
 ·rw[if_neg (by simp[h]),if_neg (by simp[h])]
  have:=hz2 h
  simp only[qzc] at this
  obtain ⟨rfl,rfl,rfl,rfl,rfl,rfl,-,-⟩:=this
  rfl
 ·rw[if_pos (by simpa using h),if_pos h]
theorem qt2 {F:Nat}(hF:2000000≤F){g:List (qAq)}{B least k:Int}:qeJ F g B least k=some (ptl g B least k):=by
 obtain ⟨z1,z2,z3,z4,z5,z6,z7,z8,hz,hz2⟩:=qmk hF (g:=g) (B:=B) (least:=least) (k:=k)
 unfold qeJ ptl
 rw[hz]
 simp only[qxD]
 by_cases h:pkE g B least k=0
 ·rw[if_neg (by simp[h]),if_neg (by simp[h])]
  have:=hz2 h
  simp only[qzc] at this
  obtain ⟨-,-,-,-,-,-,rfl,rfl⟩:=this
  rfl
 ·rw[if_pos (by simpa using h),if_pos h]
theorem qtS {F:Nat}{xs ys:qAq}(he:xs.length=ys.length)(hm:xs.length≤1000000):∀ (k i:Nat),xs.length<k+i→i≤xs.length→qU F xs ys k (i:Int)=some (decide (xs.drop i=ys.drop i))
 | 0,_,_,_=>by omega
 | k+1,i,h,hi=>by
  show zr F xs ys (qU F xs ys k) (i:Int)=_
  unfold zr
  by_cases hlt:i<xs.length
  ·have hlt':i<ys.length:=by omega
   rw[if_pos (by simp;omega),qt,qxE hlt,qt,qxE hlt']
   simp only[qxD]
   rw[qxI hlt,qxI hlt']
   by_cases hc:xs[i]=ys[i]
   ·rw[if_neg (by simp[hc]),qn (by omega),qtS he hm k (i+1) (by omega) (by omega)]
    congr 1
    rw[decide_eq_decide,qzj]
    exact ⟨fun h=>⟨hc,h⟩,fun h=>h.2⟩
   ·rw[if_pos (by simpa using hc),decide_eq_false (fun e=>hc (qAh e).1)]
  ·rw[if_neg (by simp;omega),qxN (by omega),qxN (by omega)]
   rfl
theorem peqb {F:Nat}{xs ys:qAq}(hF:xs.length<F)(hm:xs.length≤1000000):q6 F xs ys=some (decide (xs=ys)):=by
 unfold q6
 by_cases h:xs.length=ys.length
 ·rw[if_neg (by simp[h])]
  have:=qtS (F:=F) h hm F 0 (by omega) (qx7 _)
  rw[qxT,qxT] at this
  exact this
 ·rw[if_pos (by simp;omega),decide_eq_false (fun e=>h (by rw[e]))]
theorem qmq {l:qAq}{p:Nat}{most:Int}(h:rgam l p most=none):(fg l p).2.2≠0∨most<(fg l p).1:=by
 unfold rgam at h
 by_cases h1:(fg l p).2.2=0
 ·right
  by_cases h2:(fg l p).1≤most
  ·rw[if_pos ⟨h1,h2⟩] at h;simp at h
  ·omega
 ·left;exact h1
theorem qnZ {l:qAq}{p:Nat}{most:Int}{x:Int×Nat}(h:rgam l p most=some x):fg l p=(x.1,(x.2:Int),0)∧x.1≤most:=by
 unfold rgam at h
 split at h
 ·rename_i hc
  simp only[qxR] at h
  rw[← h]
  have h3:0≤(fg l p).2.1:=by
   rcases ql7 (l:=l) (a:=p) with h1 | ⟨n,q,h1,h2,h3⟩
   ·exact absurd hc.1 h1
   ·rw[h1];simp
  refine ⟨?_,hc.2⟩
  simp only
  rw[qzE h3,← hc.1]
 ·simp at h
theorem qtX {l:qAq}{B:Int}(_hB:0≤B){node p:Nat}(hp:p≤l.length){o:Int×Nat}(h:pkO l B node p=some o):0≤o.1∧o.1≤min B (node:Int)∧o.2≤l.length:=by
 unfold pkO at h
 split at h
 ·simp only[qxR] at h
  subst h
  simp only
  omega
 ·have:=vO h
  omega
theorem qrv {F:Nat}(hF:20000≤F){l:qAq}(hl:Bit l)(hm:l.length≤8192){N B least k:Int}(hB:0≤B∧B≤7){node p:Nat}(hn:node≤1000)(hp:p≤l.length) :
  qfs F N B least k (l.length:Int) (pk l) (p:Int) (node:Int)=some (match pkO l B node p with | none=>(0,0,false) | some o=>(o.1,(o.2:Int),true)):=by
 unfold qfs pkO
 by_cases h0:B=0
 ·rw[if_pos (by simpa using h0),if_pos h0]
 ·rw[if_neg (by simpa using h0),if_neg h0,qiK hF hl hm hp]
  simp only[qxD]
  have hmin:imin B (node:Int)=min B (node:Int):=by unfold imin;split <;> omega
  have hcv:iconv .u64 (min B (node:Int))=min B (node:Int):=by
   obtain ⟨q,hq⟩:=qxK (a:=min B (node:Int)) (by omega)
   rw[hq];exact zz (by omega)
  unfold qeA
  rw[hmin,hcv]
  cases hr:rgam l p (min B (node:Int)) with
  | none =>
   rcases qmq hr with h1 | h1
   ·rw[if_pos (by simpa using h1),if_pos rfl]
   ·by_cases h2:(fg l p).2.2=0
    ·rw[if_neg (by simp[h2]),if_pos (by simpa using h1)]
    ·rw[if_pos (by simpa using h2),if_pos rfl]
  | some x =>
   obtain ⟨h1,h2⟩:=qnZ hr
   have hok:=vO hr
   rw[h1]
   simp only
   rw[if_neg (by simp),if_neg (by simp;omega)]
   have e:iconv .i64 x.1=x.1:=qX (by omega) (by omega)
   rw[e]
theorem qpb {F k:Nat}(hF:2000000≤F){l:qAq}(hl:Bit l)(hm:l.length≤8192){B least:Int}(hh:hcE B least (k:Int)=0){n:Nat}(hn:n≤100):∀ (j p:Nat) (out:List (qAq)),n<j+out.length→out.length≤n→p≤l.length→(∀ x∈out,gkc x=0) →
  k8 F (n:Int) B least (k:Int) (l.length:Int) (pk l) j (out,(p:Int),(out.length:Int))=some (match pkR l B least k (n-out.length) out p with | none=>([],false) | some r=>(r.1,decide (r.2=l.length)))
 | 0,_,_,_,_,_,_=>by omega
 | j+1,p,out,h,ho,hp,hg=>by
  obtain ⟨k1,k2,k',hk,k3,k4⟩:=qbi hh
  have hkk:k=k':=by omega
  subst hkk
  show qc8 F (n:Int) B least (k:Int) (l.length:Int) (pk l) (k8 F (n:Int) B least (k:Int) (l.length:Int) (pk l) j) out (p:Int) (out.length:Int)=_
  unfold qc8
  by_cases hlt:out.length<n
  ·rw[if_pos (by simp;omega),qrv (by omega) hl hm k1 (by omega) hp,show n-out.length=(n-(out.length+1))+1 from by omega]
   simp only[qxD,pkR]
   cases hO:pkO l B out.length p with
   | none=>rfl
   | some o =>
    obtain ⟨o1,o2,o3⟩:=qtX k1.1 hp hO
    simp only[qys,qxP,if_false,qxD]
    have hfr:gkc (pkF out out.length o.1.toNat)=0:=by
     unfold pkF
     split
     ·rw[qyb]
      by_cases hq:out.length-o.1.toNat<out.length
      ·rw[qxE hq];exact hg _ (qx8 hq)
      ·rw[qx2 (by omega)];decide
     ·decide
    have hstep:∀ fr:qAq,fr=pkF out out.length o.1.toNat→((qak F (l.length:Int) (pk l) (o.2:Int) (out.length:Int) fr o.1 least (k:Int)).bind fun x488=>(if ((x488.2.2:Int) != 0) then some (([]:List (qAq)),false) else ((app 2199023255552 out ([x488.1]:List (qAq))).bind fun x494=>qaZ F (k8 F (n:Int) B least (k:Int) (l.length:Int) (pk l) j) (out.length:Int) x494 x488.2.1)))=some (match (rdl l o.2 (out.length:Int) (pkF out out.length o.1.toNat) o.1 least k).bind fun r=>pkR l B least k (n-(out.length+1)) (out++[r.1]) r.2 with | none=>([],false) | some r=>(r.1,decide (r.2=l.length))):=by
     intro fr hfe
     subst hfe
     rw[qpq hF k3 k4 hl hm (by unfold Nd;omega) o3 (fun _=>hfr) k2]
     simp only[qxD]
     cases hr:rdl l o.2 (out.length:Int) (pkF out out.length o.1.toNat) o.1 least k with
     | none=>rfl
     | some r =>
      obtain ⟨r1,r2,r3,r4,r5⟩:=qiV hl k3 hr
      simp only[qxD]
      rw[if_neg (by simp),qT (by simp;omega)]
      simp only[qxD]
      unfold qaZ
      have hl1:(out++[r.1]).length=out.length+1:=by simp
      have hrec:=qpb hF hl hm hh hn j r.2 (out++[r.1]) (by omega) (by omega) r5 (fun x hx=>by
       rcases qxL.1 hx with hx | hx
       ·exact hg x hx
       ·simp at hx;subst hx;exact r1)
      rw[hl1] at hrec
      rw[qn (by omega),hrec]
    by_cases h0:0<o.1
    ·rw[if_pos (by simpa using h0),qy (by omega) (by omega),show ((out.length:Int)-o.1)=((out.length-o.1.toNat:Nat):Int) from by omega,qfA (by omega)]
     simp only[qxD]
     exact hstep _ (by unfold pkF;rw[if_pos (by omega)])
    ·rw[if_neg (by simpa using h0)]
     exact hstep _ (by unfold pkF;rw[if_neg (by omega)])
  ·rw[if_neg (by simp;omega),show n-out.length=0 from by omega]
   unfold qeU
   simp only[pkR]
   congr 2
   by_cases hpl:p=l.length
   ·subst hpl;simp
   ·rw[decide_eq_false hpl];simp;omega
def pcE (N B least k m:Int)(b:qAq):Int:=if N<0∨100<N then 3 else if hcE B least k≠0 then hcE B least k else chkOf m b
def prd (N B least k m:Int)(b:qAq):List (qAq)×Int :=
 if pcE N B least k m b≠0 then ([],pcE N B least k m b) else
 match pkR (bl b m.toNat) B least k.toNat N.toNat [] 0 with
 | none=>([],1)
 | some r=>if r.2=m.toNat∧pkE r.1 B least k=0∧pk (pkA r.1 B least k.toNat r.1.length).1=b then (r.1,0) else ([],1)
theorem qqm {F:Nat}{N B least k m:Int}{b:qAq}(hb:U8s b)(hm:I64 m)(lb:b.length≤9223372036854775807):qe3 F N B least k m b=some (pcE N B least k m b):=by
 unfold qe3 pcE
 by_cases h1:N<0∨100<N
 ·rw[if_pos (by simpa using h1),if_pos h1]
 ·rw[if_neg (by simpa using h1),if_neg h1,qjg]
  simp only[qxD]
  by_cases h2:hcE B least k=0
  ·rw[if_neg (by simp[h2]),if_neg (by simp[h2]),qkm hb hm.1 hm.2 lb]
   rfl
  ·rw[if_pos (by simpa using h2),if_pos h2]
theorem qqk {N B least k m:Int}{b:qAq}(hb:U8s b)(h:pcE N B least k m b=0):∃ (n:Nat) (l:qAq),N=(n:Int)∧n≤100∧hcE B least k=0∧Bit l∧l.length≤8192∧m=(l.length:Int)∧b=pk l:=by
 unfold pcE at h
 by_cases h1:N<0∨100<N
 ·rw[if_pos h1] at h;simp at h
 ·rw[if_neg h1] at h
  by_cases h2:hcE B least k=0
  ·rw[if_neg (by simp[h2])] at h
   rcases qiG hb (n:=m) with h3 | ⟨l,hl,hm,e1,e2⟩
   ·exact absurd h h3
   ·exact ⟨N.toNat,l,by omega,by omega,h2,hl,hm,e1,e2⟩
  ·rw[if_pos h2] at h;exact absurd h h2
theorem qt1 {F:Nat}(hF:2000000≤F){N B least k m:Int}{b:qAq}(hb:U8s b)(hm:I64 m)(lb:b.length≤9223372036854775807):qfP F N B least k m b=some (prd N B least k m b):=by
 unfold qfP prd
 rw[qqm hb hm lb]
 simp only[qxD]
 by_cases h:pcE N B least k m b=0
 ·rw[if_neg (by simp[h]),if_neg (by simp[h])]
  obtain ⟨n,l,rfl,hn,hh,hl,hlm,rfl,rfl⟩:=qqk hb h
  obtain ⟨k1,k2,k',rfl,k3,k4⟩:=qbi hh
  have hL:=qpb (F:=F) hF hl hlm hh hn F 0 [] (by simp;omega) (qx7 _) (qx7 _) (by simp)
  have hL':qgB F (n:Int) B least (k':Int) (l.length:Int) (pk l)=_:=hL
  rw[hL']
  simp only[qxD,qyA,qy4,qxH,qbS hl]
  cases hr:pkR l B least k' n [] 0 with
  | none=>rfl
  | some r =>
   simp only
   by_cases hp:r.2=l.length
   ·rw[decide_eq_true hp,if_neg (by simp),qmn hF]
    simp only[qxD]
    unfold pwr qdP
    by_cases hE:pkE r.1 B least (k':Int)=0
    ·rw[if_neg (by simp[hE])]
     simp only[qxH]
     obtain ⟨_,_,hA⟩:=qfD hE
     rw[qxH] at hA
     rw[if_neg (by simp[hE]),peqb (by rw[qfE];omega) (by rw[qfE];omega)]
     simp only[qxD]
     by_cases hq:pk (pkA r.1 B least k' r.1.length).1=pk l
     ·rw[decide_eq_true hq,if_neg (by simp),if_pos ⟨hp,hE,hq⟩]
     ·rw[decide_eq_false hq,if_pos (by simp),if_neg (fun hc=>hq hc.2.2)]
    ·rw[if_pos hE,if_pos (by simpa using hE),if_pos rfl,if_neg (fun hc=>hE hc.2.1)]
   ·rw[decide_eq_false hp,if_pos (by simp),if_neg (fun hc=>hp hc.1)]
 ·rw[if_pos (by simpa using h),if_pos h]
theorem quf {l:qAq}(hl:Bit l){p:Nat}{most:Int}{x:Int×Nat}(h:rgam l p most=some x):x.2=p+(ga x.1.toNat).length:=by
 have hf:=(qnZ h).1
 unfold fg at hf
 cases hz:fz (l.drop p) with
 | none=>rw[hz] at hf;simp at hf
 | some k =>
  rw[hz] at hf
  simp only at hf
  unfold numOf at hf
  by_cases h1:64≤k
  ·rw[if_pos h1] at hf;simp at hf
  ·rw[if_neg h1] at hf
   by_cases h2:l.length<p+k+1+k
   ·rw[if_pos h2] at hf;simp at hf
   ·rw[if_neg h2] at hf
    by_cases h3:1099511627776<bv ((l.drop (p+k+1)).take k)+2^k-1
    ·rw[if_pos h3] at hf;simp at hf
    ·rw[if_neg h3] at hf
     simp only[qzc,and_true] at hf
     have hb:=qkj (qfy (qeL hl (p+k+1)) k)
     rw[qx1,List.length_drop,Nat.min_eq_left (by omega)] at hb
     have hp0:0<2^k:=qyN (by decide)
     have hn:x.1.toNat=bv ((l.drop (p+k+1)).take k)+2^k-1:=by omega
     have hlg:lg x.1.toNat=k:=qsv (by omega) (by rw[qyS];omega)
     rw[qnx,hlg]
     omega
theorem qvI {l:qAq}(hl:Bit l){B:Int}(hB:0≤B){node p:Nat}{o:Int×Nat}(h:pkO l B node p=some o):o.2=p+(pkH B o.1.toNat).length:=by
 unfold pkO at h
 unfold pkH
 split at h
 ·rename_i h0
  simp only[qxR] at h
  subst h
  rw[if_neg (by omega)]
  simp
 ·rw[if_pos (by omega)]
  exact quf hl h
theorem qoU {g:List (qAq)}{x:qAq}{i:Nat}(h:i<g.length):(g++[x]).getD i []=g.getD i []:=by
 rw[qyb,qyb,List.getElem?_append_left h]
theorem qrq {g:List (qAq)}{x:qAq}{i r:Nat}(h:i≤g.length)(hr:r≤i):pkF (g++[x]) i r=pkF g i r:=by
 unfold pkF
 split
 ·exact qoU (by omega)
 ·rfl
theorem qvH {g:List (qAq)}{x:qAq}{B least:Int}{k i:Nat}(h:i<g.length):pkN (g++[x]) B least k i=pkN g B least k i:=by
 unfold pkN
 refine ql0 fun r hr=>?_
 unfold pkW
 rw[qoU h,qrq (by omega) (by omega)]
theorem qro {g:List (qAq)}{x:qAq}{B least:Int}{k:Nat}:∀ {i:Nat},i≤g.length→pkA (g++[x]) B least k i=pkA g B least k i
 | 0,_=>rfl
 | i+1,h=>by
  unfold pkA
  rw[qro (i:=i) (by omega),qvH (by omega)]
theorem qkL {l:qAq}(hl:Bit l){B least:Int}{k:Nat}(hB:0≤B)(hk:1≤k):∀ (m p:Nat) (out:List (qAq)) (r:List (qAq)×Nat),pkR l B least k m out p=some r→p≤l.length→(pkA out B least k out.length).1.length≤p →
  r.1.length=out.length+m∧(pkA r.1 B least k r.1.length).1.length≤r.2
 | 0,p,out,r,h,_,hA=>by
  simp only[pkR,qxR] at h
  subst h
  exact ⟨rfl,hA⟩
 | m+1,p,out,r,h,hp,hA=>by
  unfold pkR at h
  rw[qyn] at h
  obtain ⟨o,ho,h⟩:=h
  rw[qyn] at h
  obtain ⟨d,hd,h⟩:=h
  obtain ⟨o1,o2,o3⟩:=qtX hB hp ho
  have hol:=qvI hl hB ho
  obtain ⟨d1,d2,d3,d4,d5⟩:=qiV hl hk hd
  have hn1:(out++[d.1]).length=out.length+1:=by simp
  have hmin:=qqW (pkW (out++[d.1]) B least k out.length) (n:=min B.toNat out.length) (r:=o.1.toNat) (by omega)
  have hW:(pkW (out++[d.1]) B least k out.length o.1.toNat).length=(pkH B o.1.toNat).length+(enc (out.length:Int) d.1 (pkF out out.length o.1.toNat) o.1 least k).length:=by
   unfold pkW
   rw[qxF,qrq (qxY _) (by omega),show ((o.1.toNat:Nat):Int)=o.1 from by omega]
   congr 3
   rw[qyb,List.getElem?_append_right (qxY _)]
   simp
  have hrec:=qkL hl hB hk m d.2 (out++[d.1]) r h d5 (by
   rw[hn1,pkA,qxF,qro (qxY _)]
   unfold pkN
   omega)
  rw[hn1] at hrec
  exact ⟨by omega,hrec.2⟩
theorem qqo {g:List (qAq)}{B least k:Int}(h:pkE g B least k=0):prd (g.length:Int) B least k ((pkA g B least k.toNat g.length).1.length:Int) (pk (pkA g B least k.toNat g.length).1)=(g,0):=by
 obtain ⟨h1,h2,h3⟩:=qfD h
 have hg:=qe9.1 h1
 have hgl:=hg.1
 obtain ⟨k1,k2,k',rfl,k3,k4⟩:=qbi h2
 rw[qxH] at h3 ⊢
 have hE:pcE (g.length:Int) B least (k':Int) ((pkA g B least k' g.length).1.length:Int) (pk (pkA g B least k' g.length).1)=0:=by
  unfold pcE
  rw[if_neg (by omega),if_neg (by simp[h2]),qij h3]
 have hr:=qj0 hg h2 h3 [] g.length 0 (by omega)
 have hr':pkR (pkA g B least k' g.length).1 B least k' g.length [] 0=some (g,(pkA g B least k' g.length).1.length):=by
  rw[qyv] at hr
  exact hr
 unfold prd
 rw[if_neg (by simp[hE])]
 simp only[qxH]
 rw[qbS (qfb _),hr']
 simp only
 rw[if_pos ⟨trivial,h,trivial⟩]
theorem qnU {N B least k m:Int}{b:qAq}(hb:U8s b)(h:(prd N B least k m b).2=0):∃ g,prd N B least k m b=(g,0)∧pkE g B least k=0∧N=(g.length:Int)∧m=((pkA g B least k.toNat g.length).1.length:Int)∧b=pk (pkA g B least k.toNat g.length).1:=by
 have h0:=h
 unfold prd at h
 by_cases hE:pcE N B least k m b=0
 ·rw[if_neg (by simp[hE])] at h
  obtain ⟨n,l,rfl,hn,hh,hl,hlm,rfl,rfl⟩:=qqk hb hE
  obtain ⟨k1,k2,k',rfl,k3,k4⟩:=qbi hh
  simp only[qxH,qbS hl] at h
  cases hr:pkR l B least k' n [] 0 with
  | none=>rw[hr] at h;simp at h
  | some r =>
   rw[hr] at h
   simp only at h
   split at h
   ·rename_i hc
    obtain ⟨c1,c2,c3⟩:=hc
    obtain ⟨g1,g2,g3⟩:=qfD c2
    rw[qxH] at g3
    have hg:=qe9.1 g1
    obtain ⟨b1,b2⟩:=qkL hl k1.1 k3 n 0 [] r hr (qx7 _) (by simp[pkA])
    rw[qyA,qyj] at b1
    have hq:l=(pkA r.1 B least k' r.1.length).1++l.drop (pkA r.1 B least k' r.1.length).1.length:=by
     have e1:l.take (pkA r.1 B least k' r.1.length).1.length=(pkA r.1 B least k' r.1.length).1:=by
      have:=qvf (b:=pk l) (n:=(pkA r.1 B least k' r.1.length).1.length) (m:=l.length) (by omega)
      rw[qbS hl,← c3,qbS (qfb _)] at this
      exact this
     conv=>lhs;rw[← qyu (pkA r.1 B least k' r.1.length).1.length l,e1]
    have hr2:=qj0 hg hh g3 (l.drop (pkA r.1 B least k' r.1.length).1.length) r.1.length 0 (by omega)
    rw[← hq] at hr2
    have hr3:pkR l B least k' n [] 0=some (r.1,(pkA r.1 B least k' r.1.length).1.length):=by
     rw[← b1];exact hr2
    rw[hr] at hr3
    have e2:r.2=(pkA r.1 B least k' r.1.length).1.length:=by
     have:=Option.some.inj hr3
     rw[this]
    refine ⟨r.1,?_,c2,by omega,by rw[qxH];omega,by rw[qxH];exact c3.symm⟩
    unfold prd
    rw[if_neg (by simp[hE])]
    simp only[qxH,qbS hl,hr]
    rw[if_pos ⟨c1,c2,c3⟩]
   ·simp at h
 ·rw[if_pos hE] at h
  exact absurd h hE
def pkSome:List (qAq):=[[1,2,3,5],[1,2,3,5],[0,1,2,3,5],[],[4],[1,2,3]]
def plc (bit:Int):qAq→Nat→Option Nat
 | [],_=>none
 | x::l,i=>if x=bit then (match i with | 0=>some 0 | i+1=>(plc bit l i).map (·+1)) else (plc bit l i).map (·+1)
theorem qkN (bit x:Int)(l:qAq)(i:Nat):plc bit (x::l) i=if x=bit then (match i with | 0=>some 0 | i+1=>(plc bit l i).map (·+1)) else (plc bit l i).map (·+1):=rfl
theorem qnR {F:Nat}{l:qAq}(hl:Bit l)(hm:l.length≤10000)(bit:Int):∀ (k j i:Nat),l.length<k+j→j≤l.length→i<9223372036854775808 →
  (∃ s,plc bit (l.drop j) i=none∧qW F (fun (x31:Int) (x37:Int)=>q5 F x31 x37) (l.length:Int) (pk l) bit k ((j:Int),(i:Int))=some (.inl s)) ∨
  (∃ a q,plc bit (l.drop j) i=some a∧qW F (fun (x31:Int) (x37:Int)=>q5 F x31 x37) (l.length:Int) (pk l) bit k ((j:Int),(i:Int))=some (.inr (((j+a:Nat):Int),q)))
 | 0,_,_,_,_,_=>by omega
 | k+1,j,i,h,hj,hi=>by
  have e:qW F (fun (x31:Int) (x37:Int)=>q5 F x31 x37) (l.length:Int) (pk l) bit (k+1) ((j:Int),(i:Int)) =
   yo F (fun (x31:Int) (x37:Int)=>q5 F x31 x37) (l.length:Int) (pk l) bit (qW F (fun (x31:Int) (x37:Int)=>q5 F x31 x37) (l.length:Int) (pk l) bit k) (j:Int) (i:Int):=rfl
  rw[e]
  unfold yo
  by_cases hlt:j<l.length
  ·rw[if_pos (by simp;omega),qoB hl (by omega) hlt,qxI hlt,qkN]
   simp only[qxD]
   by_cases h1:l[j]=bit
   ·rw[if_pos h1,if_pos (by simpa using h1)]
    cases i with
    | zero =>
     right
     exact ⟨0,0,rfl,rfl⟩
    | succ i =>
     have:q5 F ((i+1:Nat):Int) (j:Int)=some (.inl (i:Int)):=by
      unfold q5
      rw[if_neg (by simp;omega),yO (by omega) (by omega),qx6]
     rw[this]
     simp only[qxD,Sum.elim_inl,kB]
     rw[qn (by omega)]
     rcases qnR (F:=F) hl hm bit k (j+1) i (by omega) (by omega) (by omega) with ⟨s,h2,h3⟩ | ⟨a,q,h2,h3⟩
     ·left;exact ⟨s,by rw[h2];rfl,h3⟩
     ·right;exact ⟨a+1,q,by rw[h2];rfl,by rw[h3,show j+1+a=j+(a+1) from by omega]⟩
   ·rw[if_neg h1,if_neg (by simpa using h1)]
    simp only[kB]
    rw[qn (by omega)]
    rcases qnR (F:=F) hl hm bit k (j+1) i (by omega) (by omega) hi with ⟨s,h2,h3⟩ | ⟨a,q,h2,h3⟩
    ·left;exact ⟨s,by rw[h2];rfl,h3⟩
    ·right;exact ⟨a+1,q,by rw[h2];rfl,by rw[h3,show j+1+a=j+(a+1) from by omega]⟩
  ·rw[if_neg (by simp;omega),qxN (by omega)]
   left;exact ⟨_,rfl,rfl⟩
theorem qkM {F:Nat}(hF:20000≤F){l:qAq}(hl:Bit l)(hm:l.length≤10000){bit:Int}{i:Nat}(hi:i<9223372036854775808) :
  qaJ F (l.length:Int) (pk l) bit (i:Int)=some (match plc bit l i with | none=>-1 | some a=>(a:Int)):=by
 unfold qaJ
 simp only[qeC,qxD,qdc]
 rcases qnR (F:=F) hl hm bit F 0 i (by omega) (by omega) hi with ⟨s,h2,h3⟩ | ⟨a,q,h2,h3⟩
 ·rw[qxT] at h2
  rw[show ((0:Nat):Int)=0 from rfl] at h3
  rw[h3,h2];rfl
 ·rw[qxT] at h2
  rw[show ((0:Nat):Int)=0 from rfl] at h3
  rw[h3,h2,qyj];rfl
theorem qoF:Bit []:=by intro x hx;simp at hx
theorem qp8 {n m:Nat}(hm:m≤62)(h:n*2^m<9223372036854775808):ishl .i64 (n:Int) (m:Int)=((n*2^m:Nat):Int):=by
 unfold ishl
 have h1:min ((m:Int).toNat) (IntKind.bits .i64)=m:=by simp[IntKind.bits];omega
 rw[h1]
 have e:(n:Int)*2^m=((n*2^m:Nat):Int):=by rw[qy1,Int.natCast_pow];rfl
 rw[e]
 generalize n*2^m=q at h
 exact qX (by omega) (by omega)
theorem qp9 {n m:Nat}(hm:m≤62):ishr .i64 (n:Int) (m:Int)=((n/2^m:Nat):Int):=by
 rw[qhB (by simp only[IntKind.bits];omega)]
 norm_cast
theorem qwN {n m:Nat}(hm:m≤62)(hn:n<9223372036854775808):iand .i64 (n:Int) ((2^m-1:Nat):Int)=((n%2^m:Nat):Int):=by
 unfold iand
 have h1:(qye (IntKind.bits .i64) (n:Int))=qyc 64 n:=by simp[IntKind.bits]
 have h2:(qye (IntKind.bits .i64) ((2^m-1:Nat):Int))=qyc 64 (2^m-1):=by simp[IntKind.bits]
 have h3:2^m≤2^62:=qx4 (by decide) hm
 rw[show (2:Nat)^62=4611686018427387904 from by decide] at h3
 rw[h1,h2]
 have h4:(qyc 64 n &&& qyc 64 (2^m-1)).toNat=n%2^m:=by
  rw[BitVec.toNat_and,qyy,qyy,qya (a:=n) (by omega),qya (a:=2^m-1) (by omega),Nat.and_two_pow_sub_one_eq_mod]
 show IntKind.wrap .i64 ((qyc 64 n &&& qyc 64 (2^m-1)).toNat:Int)=_
 rw[h4]
 have:=qAg n (2^m)
 generalize n%2^m=q at this
 exact qX (by omega) (by omega)
theorem qjh {a b:Nat}(h:a*b<9223372036854775808):imul .i64 (a:Int) (b:Int)=((a*b:Nat):Int):=by
 unfold imul
 rw[← qy1]
 generalize a*b=q at h
 exact qX (by omega) (by omega)
def wd (n t:Nat):Nat:=if n=0 then 0 else len ((t+1)/n)-1
theorem qr4 {n t w:Nat}(hn:n≠0):n*2^(w+1)≤t+1↔w<wd n t:=by
 unfold wd
 rw[if_neg hn]
 have h1:=qeW (x:=(t+1)/n) (k:=w+1)
 have h2:=Nat.le_div_iff_mul_le (x:=2^(w+1)) (y:=t+1) (k:=n) (by omega)
 rw[qzi] at h2
 omega
theorem qi9 {n t:Nat}(ht:t≤1048576):wd n t≤20:=by
 unfold wd
 split
 ·omega
 ·have h1:(t+1)/n≤t+1:=qyT _ _
  have h2:len ((t+1)/n)≤21:=qeW.2 (by omega)
  omega
theorem qr5 {F n t:Nat}(hn:n≤300)(ht:t≤1048576):∀ (k w:Nat),wd n t<k+w→w≤wd n t →
  yn F (n:Int) (t:Int) k (w:Int)=some ((wd n t:Nat):Int)
 | 0,_,_,_=>by omega
 | k+1,w,h,hw=>by
  show qcw F (n:Int) (t:Int) (yn F (n:Int) (t:Int) k) (w:Int)=_
  unfold qcw
  have h20:=qi9 (n:=n) ht
  by_cases h0:n=0
  ·subst h0
   have:wd 0 t=0:=rfl
   rw[if_neg (by simp)]
   unfold j6
   rw[if_neg (by simp)]
   obtain rfl:w=0:=by omega
   rw[this];rfl
  ·have hp:2^(w+1)≤2^21:=qx4 (by decide) (by omega)
   have hm:n*2^(w+1)≤300*2^21:=qzf hn hp
   rw[show (300:Nat)*2^21=629145600 from by decide] at hm
   have hc:decide ((0:Int)≤((w+1:Nat):Int))=true:=decide_eq_true (by omega)
   rw[if_pos (by simp;omega),qn (by omega),hc]
   simp only[chk,if_true]
   rw[qp8 (by omega) (by omega),qn (by omega)]
   unfold j6
   have hs:=qr4 (n:=n) (t:=t) (w:=w) h0
   by_cases hlt:w<wd n t
   ·rw[if_pos (by simp only[decide_eq_true_eq];have:=hs.2 hlt;omega),qn (by omega)]
    exact qr5 hn ht k (w+1) (by omega) (by omega)
   ·rw[if_neg (by simp only[decide_eq_true_eq];intro hh;exact hlt (hs.1 (by omega)))]
    obtain rfl:w=wd n t:=by omega
    rfl
theorem qpG {F n t:Nat}(hF:20000≤F)(hn:n≤300)(ht:t≤1048576):qdK F (n:Int) (t:Int)=some ((wd n t:Nat):Int):=by
 unfold qdK
 have:=qi9 (n:=n) ht
 exact qr5 hn ht F 0 (by omega) (by omega)
theorem qoR {F n t:Nat}(hn:n≤300)(h0:n≠0)(ht:t≤1048576):∀ (k w:Nat),wd n t<k+w→w≤wd n t →
  vj F (n:Int) (t:Int) k ((w:Int),((2^(w+1):Nat):Int))=some ((wd n t:Nat):Int)
 | 0,_,_,_=>by omega
 | k+1,w,h,hw=>by
  show qb5 F (n:Int) (t:Int) (vj F (n:Int) (t:Int) k) (w:Int) ((2^(w+1):Nat):Int)=_
  unfold qb5
  have h20:=qi9 (n:=n) ht
  have hp:2^(w+1)≤2^21:=qx4 (by decide) (by omega)
  have hm:n*2^(w+1)≤300*2^21:=qzf hn hp
  rw[show (300:Nat)*2^21=629145600 from by decide] at hm
  rw[show (2:Nat)^21=2097152 from by decide] at hp
  rw[qjh (by omega),qn (by omega)]
  have hs:=qr4 (n:=n) (t:=t) (w:=w) h0
  by_cases hlt:w<wd n t
  ·have e:2*2^(w+1)=2^(w+1+1):=by rw[qyS 2 (w+1)];omega
   rw[if_pos (by simp only[decide_eq_true_eq];have:=hs.2 hlt;omega),qn (by omega),qjZ (by omega),e]
   exact qoR hn h0 ht k (w+1) (by omega) (by omega)
  ·rw[if_neg (by simp only[decide_eq_true_eq];intro hh;exact hlt (hs.1 (by omega)))]
   obtain rfl:w=wd n t:=by omega
   rfl
theorem qso {F n t:Nat}(hF:20000≤F)(hn:n≤300)(ht:t≤1048576):qef F (n:Int) (t:Int)=some ((wd n t:Nat):Int):=by
 unfold qef
 have h20:=qi9 (n:=n) ht
 by_cases h0:n=0
 ·subst h0;rw[if_pos (by simp)];rfl
 ·rw[if_neg (by simp;omega)]
  have:=qoR (F:=F) hn h0 ht F 0 (by omega) (by omega)
  rw[qyj,Nat.pow_one] at this
  exact this
def fk (t:Int):Int→qAq→Int
 | _,[]=>0
 | last,n::l=>if 0≤n∧n≤t then (if n<last then 4 else fk t n l) else 3
def fkc (l:qAq)(t:Int):Int:=if 0≤t∧t≤1048576 then (if 300<l.length then 2 else fk t 0 l) else 3
theorem qoM {F:Nat}{t:Int}{l:qAq}(hm:l.length≤300):∀ (k i:Nat) (last:Int),l.length<k+i→i≤l.length →
  vW F l t k (last,(i:Int))=some (fk t last (l.drop i))
 | 0,_,_,_,_=>by omega
 | k+1,i,last,h,hi=>by
  show qc4 F l t (vW F l t k) last (i:Int)=_
  unfold qc4
  by_cases hlt:i<l.length
  ·rw[if_pos (by simp;omega),qt,qxE hlt,qxI hlt,fk]
   simp only[qxD]
   by_cases h1:0≤l[i]∧l[i]≤t
   ·rw[if_pos h1,if_neg (by simp;omega)]
    by_cases h2:l[i]<last
    ·rw[if_pos h2,if_pos (by simpa using h2)]
    ·rw[if_neg h2,if_neg (by simpa using h2),qn (by omega)]
     exact qoM hm k (i+1) _ (by omega) (by omega)
   ·rw[if_neg h1,if_pos (by simp;omega)]
  ·rw[if_neg (by simp;omega),qxN (by omega)]
   rfl
theorem ql6 {F:Nat}(hF:20000≤F){l:qAq}{t:Int}:qdI F l t=some (fkc l t):=by
 unfold qdI fkc
 by_cases h1:0≤t∧t≤1048576
 ·rw[if_pos h1,if_neg (by simp;omega)]
  by_cases h:300<l.length
  ·rw[if_pos h,if_pos (by simp;omega)]
  ·rw[if_neg h,if_neg (by simp;omega)]
   exact qoM (by omega) F 0 0 (by omega) (by omega)
 ·rw[if_neg h1,if_pos (by simp;omega)]
theorem qtk {F:Nat}{t:Int}{l:qAq}(hm:l.length≤300):∀ (k i:Nat) (last:Int),l.length<k+i→i≤l.length→(i=0∧last=0∨0<i∧l[i-1]?=some last) →
  k6 F l t k (i:Int)=some (fk t last (l.drop i))
 | 0,_,_,_,_,_=>by omega
 | k+1,i,last,h,hi,hlast=>by
  show qcS F l t (k6 F l t k) (i:Int)=_
  unfold qcS
  by_cases hlt:i<l.length
  ·rw[if_pos (by simp;omega),qt,qxE hlt,qxI hlt,fk]
   simp only[qxD]
   rw[qdn]
   simp only[qxD]
   by_cases h1:0≤l[i]∧l[i]≤t
   ·rw[decide_eq_true h1,if_pos h1,if_neg (by simp)]
    have hrec:k6 F l t k ((i+1:Nat):Int)=some (fk t l[i] (l.drop (i+1))) :=
     qtk hm k (i+1) _ (by omega) (by omega) (.inr ⟨by omega,by rw[qx6,qxE hlt]⟩)
    rcases hlast with ⟨rfl,rfl⟩ | ⟨h0,hl⟩
    ·rw[if_neg (by simp)]
     unfold qaP
     rw[if_neg (by simp),if_neg (show ¬ l[0]<0 by omega),qn (by omega)]
     exact hrec
    ·rw[if_pos (by simp;omega),yO (by omega) (by omega),qt,hl]
     simp only[qxD,qaP]
     by_cases h2:l[i]<last
     ·rw[if_pos h2,if_pos (by simpa using h2)]
     ·rw[if_neg h2,if_neg (by simpa using h2),qn (by omega)]
      exact hrec
   ·rw[decide_eq_false h1,if_neg h1,if_pos (by simp)]
  ·rw[if_neg (by simp;omega),qxN (by omega)]
   rfl
theorem qvn {F:Nat}(hF:20000≤F){l:qAq}{t:Int}:qfK F l t=some (fkc l t):=by
 unfold qfK fkc
 rw[qdn]
 simp only[qxD]
 by_cases h1:0≤t∧t≤1048576
 ·rw[if_pos h1,decide_eq_true h1,if_neg (by simp)]
  by_cases h:300<l.length
  ·rw[if_pos h,if_pos (by simp;omega)]
  ·rw[if_neg h,if_neg (by simp;omega)]
   exact qtk (by omega) F 0 0 (by omega) (by omega) (.inl ⟨rfl,rfl⟩)
 ·rw[if_neg h1,decide_eq_false h1,if_pos (by simp)]
def Up (t:Nat):Nat→List Nat→Prop
 | _,[]=>True
 | last,n::l=>last≤n∧n≤t∧Up t n l
def lc (l:List Nat):qAq:=l.map fun x:Nat=>(x:Int)
theorem qaN (l:List Nat):(lc l).length=l.length:=by simp[lc]
theorem qwq {t:Nat}:∀ {l:qAq} {last:Nat},fk (t:Int) (last:Int) l=0↔∃ ns,l=lc ns∧Up t last ns
 | [],last=>by
  constructor
  ·intro _;exact ⟨[],rfl,trivial⟩
  ·intro _;rfl
 | n::l,last=>by
  unfold fk
  by_cases h1:0≤n∧n≤(t:Int)
  ·rw[if_pos h1]
   obtain ⟨n,rfl⟩:=qxK h1.1
   by_cases h2:(n:Int)<(last:Int)
   ·rw[if_pos h2]
    constructor
    ·intro h;simp at h
    ·rintro ⟨ns,e,hu⟩
     cases ns with
     | nil=>simp[lc] at e
     | cons m ns=>simp[lc] at e;have:=hu.1;omega
   ·rw[if_neg h2,qwq]
    constructor
    ·rintro ⟨ns,rfl,hu⟩;exact ⟨n::ns,rfl,by omega,by omega,hu⟩
    ·rintro ⟨ns,e,hu⟩
     cases ns with
     | nil=>simp[lc] at e
     | cons m ns =>
      simp[lc] at e
      obtain ⟨e1,rfl⟩:=e
      obtain rfl:n=m:=by omega
      exact ⟨ns,rfl,hu.2.2⟩
  ·rw[if_neg h1]
   constructor
   ·intro h;simp at h
   ·rintro ⟨ns,e,hu⟩
    cases ns with
    | nil=>simp[lc] at e
    | cons m ns =>
     simp[lc] at e
     have:=hu.2.1
     exact absurd ⟨by omega,by omega⟩ h1
theorem qik {l:qAq}{t:Int}:fkc l t=0↔∃ (ns:List Nat) (k:Nat),t=k∧k≤1048576∧l=lc ns∧ns.length≤300∧Up k 0 ns:=by
 unfold fkc
 by_cases h1:0≤t∧t≤1048576
 ·rw[if_pos h1]
  obtain ⟨t,rfl⟩:=qxK h1.1
  by_cases h:300<l.length
  ·rw[if_pos h]
   constructor
   ·intro h;simp at h
   ·rintro ⟨ns,k,_,_,rfl,h3,_⟩;rw[qaN] at h;omega
  ·rw[if_neg h]
   have:=qwq (t:=t) (l:=l) (last:=0)
   rw[show ((0:Nat):Int)=0 from rfl] at this
   rw[this]
   constructor
   ·rintro ⟨ns,rfl,hu⟩;exact ⟨ns,t,rfl,by omega,rfl,by rw[qaN] at h;omega,hu⟩
   ·rintro ⟨ns,k,e,_,rfl,_,hu⟩
    obtain rfl:t=k:=by omega
    exact ⟨ns,rfl,hu⟩
 ·rw[if_neg h1]
  constructor
  ·intro h;simp at h
  ·rintro ⟨ns,k,rfl,h2,_⟩;exact absurd ⟨by omega,by omega⟩ h1
theorem qle {t:Nat}:∀ {l:List Nat} {a:Nat},Up t a l→∀ x∈l,a≤x∧x≤t
 | [],_,_=>by intro x hx;simp at hx
 | n::l,a,h=>by
  intro x hx
  rcases qxO.1 hx with rfl | hx
  ·exact ⟨h.1,h.2.1⟩
  ·have:=qle h.2.2 x hx;have:=h.1;omega
def lo' (w:Nat)(l:List Nat):qAq:=l.flatMap fun x=>nb x w
theorem qhf (w x:Nat)(l:List Nat):lo' w (x::l)=nb x w++lo' w l:=rfl
theorem qvB (w:Nat)(l k:List Nat):lo' w (l++k)=lo' w l++lo' w k:=by unfold lo';rw[List.flatMap_append]
theorem qnL (w:Nat):∀ l:List Nat,(lo' w l).length=l.length*w
 | []=>by simp[lo']
 | x::l=>by rw[qhf,qxF,qbj,qnL w l,qxX,qzn,qzD,qy5]
theorem qhG (w:Nat):∀ l:List Nat,Bit (lo' w l)
 | []=>by intro x hx;simp[lo'] at hx
 | x::l=>by rw[qhf];exact kw (qkH _ _) (qhG w l)
def hp (w last:Nat):Nat→List Nat→qAq
 | a,[]=>qxJ (last-a) 0
 | a,x::l=>qxJ (x/2^w-a) 0++(1::hp w last (x/2^w) l)
theorem qin (w last:Nat):∀ (a:Nat) (l:List Nat),Bit (hp w last a l)
 | a,[]=>qgD _
 | a,x::l=>by
  rw[hp]
  exact kw (qgD _) (by
   intro y hy
   rcases qxO.1 hy with rfl | hy
   ·right;rfl
   ·exact qin w last _ l y hy)
theorem qtD {w t:Nat}:∀ {a:Nat} {l:List Nat},Up t a l→(hp w (t/2^w+1) (a/2^w) l).length=l.length+(t/2^w+1-a/2^w)
 | a,[],_=>by simp[hp]
 | a,x::l,h=>by
  have h1:a/2^w≤x/2^w:=qy0 h.1
  have h2:x/2^w≤t/2^w:=qy0 h.2.1
  have:=qtD (w:=w) h.2.2
  rw[hp,qxF,qyh,qxX,qxX,this]
  omega
def loF (t:Nat)(l:List Nat):qAq:=lo' (wd l.length t) l
def hiF (t:Nat)(l:List Nat):qAq:=hp (wd l.length t) (t/2^wd l.length t+1) 0 l
theorem qfW (t:Nat)(l:List Nat):(loF t l).length=l.length*wd l.length t:=qnL _ _
theorem qgJ {t:Nat}{l:List Nat}(h:Up t 0 l):(hiF t l).length=l.length+(t/2^wd l.length t+1):=by
 have:=qtD (w:=wd l.length t) h
 rw[Nat.zero_div,qy4] at this
 exact this
def Fits (t:Nat)(l:List Nat):Prop:=l.length*wd l.length t≤8192∧l.length+(t/2^wd l.length t+1)≤8192
instance fitsDec (t:Nat) (l:List Nat):Decidable (Fits t l):=inferInstanceAs (Decidable (_∧_))
theorem qug {F:Nat}(hF:20000≤F){to:Nat}(hto:to≤10000):∀ (k a:Nat) (l:qAq),to<k+a→a≤to→Bit l→l.length+(to-a)≤8192 →
  ko F (to:Int) k ((l.length:Int),pk l,(a:Int))=some (((l++qxJ (to-a) 0).length:Int),pk (l++qxJ (to-a) 0),(to:Int))
 | 0,_,_,_,_,_,_=>by omega
 | k+1,a,l,h,ha,hl,hm=>by
  show vI F (to:Int) (ko F (to:Int) k) (l.length:Int) (pk l) (a:Int)=_
  unfold vI
  by_cases hlt:a<to
  ·have hadd:=qif (F:=F) (n:=0) (w:=1) (l:=l) (by decide) (by omega) hl (by omega) (by decide)
   rw[show ((0:Nat):Int)=0 from rfl,show ((1:Nat):Int)=1 from rfl,show nb 0 1=[0] from rfl] at hadd
   rw[if_pos (by simp;omega),hadd]
   simp only[qxD]
   rw[qn (by omega),qug hF hto k (a+1) (l++[0]) (by omega) (by omega) (kw hl (qgD 1)) (by rw[qxF];simp;omega)]
   have e:l++[0]++qxJ (to-(a+1)) 0=l++qxJ (to-a) 0:=by
    rw[qxG,show to-a=(to-(a+1))+1 from by omega,qyk];rfl
   rw[e]
  ·rw[if_neg (by simp;omega),show to-a=0 from by omega]
   obtain rfl:a=to:=by omega
   simp
theorem qrD {F:Nat}(hF:20000≤F){to a:Nat}{l:qAq}(ha:a≤to)(hto:to≤10000)(hl:Bit l)(hm:l.length+(to-a)≤8192) :
  vC F (l.length:Int) (pk l) (a:Int) (to:Int)=some (((l++qxJ (to-a) 0).length:Int),pk (l++qxJ (to-a) 0),(to:Int)):=by
 unfold vC
 exact qug hF hto F a l (by omega) ha hl hm
def T8 (t:Nat)(l:List Nat)(e:Bool):Int×Int×Int×Int×qAq×Int×qAq×Bool :=
 ((l.length:Int),(t:Int),(wd l.length t:Int),((loF t l).length:Int),pk (loF t l),((hiF t l).length:Int),pk (hiF t l),e)
theorem qwv {F w t:Nat}(hF:20000≤F)(hw:w≤20)(ht:t≤1048576){l:List Nat}(hlm:l.length≤300)(f1:l.length*w≤8192)(f2:l.length+(t/2^w+1)≤8192):∀ (k i:Nat) (q:Nat) (L H:qAq),l.length<k+i→i≤l.length→Up t q (l.drop i)→Bit L→Bit H→L.length+(l.length-i)*w≤8192→H.length+(l.length-i)+(t/2^w+1-q/2^w)≤8192→q≤t →
  qbc F (lc l) (t:Int) (w:Int) k ((i:Int),(H.length:Int),pk H,((q/2^w:Nat):Int),(L.length:Int),pk L) =
   some ((l.length:Int),(t:Int),(w:Int),((L++lo' w (l.drop i)).length:Int),pk (L++lo' w (l.drop i)),((H++hp w (t/2^w+1) (q/2^w) (l.drop i)).length:Int),pk (H++hp w (t/2^w+1) (q/2^w) (l.drop i)),true)
 | 0,_,_,_,_,_,_,_,_,_,_,_,_=>by omega
 | k+1,i,q,L,H,h,hi,hu,hL,hH,hLm,hHm,hq=>by
  show qeu F (lc l) (t:Int) (w:Int) (qbc F (lc l) (t:Int) (w:Int) k) (i:Int) (H.length:Int) (pk H) ((q/2^w:Nat):Int) (L.length:Int) (pk L)=_
  unfold qeu
  have hqt:q/2^w≤t/2^w:=qy0 hq
  by_cases hlt:i<l.length
  ·rw[qxI hlt] at hu ⊢
   have hx1:=hu.1;have hx2:=hu.2.1;have hx3:=hu.2.2
   have hg:(lc l)[i]?=some ((l[i]:Nat):Int):=by simp[lc,hlt]
   have hc:decide ((0:Int)≤(w:Int))=true:=decide_eq_true (by omega)
   have hp20:2^w≤2^20:=qx4 (by decide) hw
   rw[show (2:Nat)^20=1048576 from by decide] at hp20
   have hp0:0<2^w:=qyN (by decide)
   have e1:ishl .i64 1 (w:Int)=((2^w:Nat):Int):=by
    have:=qp8 (n:=1) (m:=w) (by omega) (by rw[qzD];omega)
    rwa [qzD] at this
   have hd1:q/2^w≤l[i]/2^w:=qy0 hx1
   have hd2:l[i]/2^w≤t/2^w:=qy0 hx2
   have hsplit:(l.length-i)*w=w+(l.length-(i+1))*w:=by
    rw[show l.length-i=(l.length-(i+1))+1 from by omega,qzn,qzD,qy5]
   rw[qaN,if_pos (by simp;omega),qt,hg]
   simp only[qxD]
   rw[hc]
   simp only[chk,if_true]
   have hmod:l[i]%2^w<18446744073709551616:=by have:=qAg l[i] (2^w);omega
   rw[e1,yO (by omega) (by omega),qwN (by omega) (by omega),zz hmod,qif hmod (by omega) hL (by omega) (by omega),qqi (qxY _)]
   simp only[qxD]
   rw[qp9 (by omega),qrD hF hd1 (by omega) hH (by omega)]
   simp only[qxD]
   have hadd:=qif (F:=F) (n:=1) (w:=1) (l:=H++qxJ (l[i]/2^w-q/2^w) 0) (by decide) (by omega) (kw hH (qgD _)) (by rw[qxF,qyh];omega) (by decide)
   rw[show ((1:Nat):Int)=1 from rfl,show nb 1 1=[1] from rfl] at hadd
   rw[hadd]
   simp only[qxD]
   rw[qn (by omega)]
   rw[qwv hF hw ht hlm f1 f2 k (i+1) l[i] (L++nb l[i] w) (H++qxJ (l[i]/2^w-q/2^w) 0++[1]) (by omega) (by omega) hx3 (kw hL (qkH _ _)) (kw (kw hH (qgD _)) qnj) (by rw[qxF,qbj];omega) (by rw[qxF,qxF,qyh];simp;omega) hx2]
   rw[hp,qhf]
   simp[qxG]
  ·rw[qaN,if_neg (by simp;omega),qxN (by omega)]
   unfold qf7
   rw[qp9 (by omega),qn (by omega),qrD hF (by omega) (by omega) hH (by omega)]
   simp[lo',hp,qaN]
theorem qq3 {F t:Nat}(hF:20000≤F)(ht:t≤1048576){l:List Nat}(hlm:l.length≤300)(hu:Up t 0 l) :
  qfp F (lc l) (t:Int)=some (if Fits t l then T8 t l true else (0,0,0,0,[],0,[],false)):=by
 unfold qfp
 have hw:=qi9 (n:=l.length) ht
 have hc:decide ((0:Int)≤((wd l.length t:Nat):Int))=true:=decide_eq_true (by omega)
 have hdt:t/2^wd l.length t≤t:=qyT _ _
 have hmul:l.length*wd l.length t≤300*20:=qzf hlm hw
 rw[qaN,qpG hF hlm ht]
 simp only[qxD]
 rw[hc]
 simp only[chk,if_true]
 rw[qjh (by omega),qp9 (by omega),qn (by omega),vg (by omega)]
 by_cases hf:Fits t l
 ·rw[if_neg (by have h1:=hf.1;have h2:=hf.2;simp only[qyC,decide_eq_true_eq];omega),if_pos hf]
  have:=qwv (F:=F) hF hw ht hlm hf.1 hf.2 F 0 0 [] [] (by omega) (by omega) (by rw[qxT];exact hu) qoF qoF (by simp;exact hf.1) (by simp;exact hf.2) (by omega)
  rw[qxT,qxV,qxV,Nat.zero_div] at this
  exact this
 ·rw[if_pos (by unfold Fits at hf;simp only[qyC,decide_eq_true_eq];omega),if_neg hf]
def nl (l:qAq):List Nat:=l.map Int.toNat
theorem qo4 (l:List Nat):nl (lc l)=l:=by
 induction l with
 | nil=>rfl
 | cons x l ih=>simp only[nl,lc,List.map_cons,qxH] at ih ⊢;rw[ih]
abbrev F8:=Int×Int×Int×Int×qAq×Int×qAq×Int
def fz8 (e:Int):F8:=(0,0,0,0,[],0,[],e)
def fo8 (t:Nat)(l:List Nat):F8:=((l.length:Int),(t:Int),(wd l.length t:Int),((loF t l).length:Int),pk (loF t l),((hiF t l).length:Int),pk (hiF t l),0)
def fw (l:qAq)(t:Int):F8:=if fkc l t≠0 then fz8 (fkc l t) else if Fits t.toNat (nl l) then fo8 t.toNat (nl l) else fz8 8
theorem qp4 {l:qAq}{t:Int}(h:fkc l t≠0):fw l t=fz8 (fkc l t):=by unfold fw;rw[if_pos h]
theorem qnu {l:List Nat}{t:Nat}(ht:t≤1048576)(hlm:l.length≤300)(hu:Up t 0 l):fkc (lc l) (t:Int)=0∧fw (lc l) (t:Int)=if Fits t l then fo8 t l else fz8 8:=by
 have h:fkc (lc l) (t:Int)=0:=qik.2 ⟨l,t,rfl,ht,rfl,hlm,hu⟩
 refine ⟨h,?_⟩
 unfold fw
 rw[h,if_neg (by simp),qxH,qo4]
theorem qsp {F:Nat}(hF:20000≤F){l:qAq}{t:Int}:qdH F l t=some (fw l t):=by
 unfold qdH
 rw[ql6 hF]
 simp only[qxD]
 by_cases h:fkc l t=0
 ·obtain ⟨ns,k,rfl,hk,rfl,hm,hu⟩:=qik.1 h
  rw[(qnu hk hm hu).2,h,if_neg (by simp),qq3 hF hk hm hu]
  simp only[qxD]
  by_cases hf:Fits k ns
  ·rw[if_pos hf,if_pos hf];rfl
  ·rw[if_neg hf,if_neg hf];rfl
 ·rw[if_pos (by simpa using h),qp4 h];rfl
theorem qru (k:Nat)(r:qAq)(i:Nat):plc 1 (qxJ k 0++r) i=(plc 1 r i).map (·+k):=by
 induction k with
 | zero=>simp
 | succ k ih =>
  rw[qyk,qyU,qkN,if_neg (by decide),ih,Option.map_map]
  congr 1
theorem qt0 {w last:Nat}:∀ {l:List Nat} {a i:Nat},(∀ x∈l,a≤x/2^w)→(∀ j x,l[j]?=some x→∀ y∈l.drop (j+1),x/2^w≤y/2^w) →
  plc 1 (hp w last a l) i=(l[i]?).map fun x=>x/2^w-a+i
 | [],a,i,_,_=>by
  have:=qru (last-a) [] i
  rw[qyv] at this
  rw[hp,this];rfl
 | x::l,a,i,h,hs=>by
  have hx:=h x qx5
  rw[hp,qru,qkN,if_pos rfl]
  cases i with
  | zero=>simp
  | succ i =>
   simp only
   have h0:=hs 0 x rfl
   rw[qyL,qxT] at h0
   rw[qt0 (a:=x/2^w) h0 (fun j y hj=>by
    have:=hs (j+1) y (by simpa using hj)
    rwa [qyL] at this)]
   simp only[List.getElem?_cons_succ,Option.map_map]
   cases hl:l[i]? with
   | none=>rfl
   | some y =>
    have:=h0 y (qxM hl)
    simp only[qyg,Function.comp]
    congr 1
    omega
theorem qj4 {t w:Nat}:∀ {l:List Nat} {a:Nat},Up t a l→∀ j x,l[j]?=some x→∀ y∈l.drop (j+1),x/2^w≤y/2^w
 | [],_,_,j,x,h=>by simp at h
 | n::l,a,h,0,x,hx=>by
  simp at hx;subst hx
  intro y hy
  rw[qyL,qxT] at hy
  exact qy0 (qle h.2.2 y hy).1
 | n::l,a,h,j+1,x,hx=>by
  intro y hy
  rw[qyL] at hy
  exact qj4 h.2.2 j x (by simpa using hx) y hy
theorem qrt {t:Nat}{l:List Nat}(h:Up t 0 l)(i:Nat):plc 1 (hiF t l) i=(l[i]?).map fun x=>x/2^wd l.length t+i:=by
 unfold hiF
 rw[qt0 (fun x _=>qx7 _) (qj4 h)]
 simp
theorem qqg {w:Nat}:∀ {l:List Nat} {i x:Nat},l[i]?=some x→((lo' w l).drop (i*w)).take w=nb x w
 | [],i,x,h=>by simp at h
 | y::l,0,x,h=>by
  simp at h;subst h
  rw[Nat.zero_mul,qxT,qhf,List.take_left' (qbj _ _)]
 | y::l,i+1,x,h=>by
  rw[qhf,qzn,qzD,qy5,← List.drop_drop,List.drop_left' (qbj _ _)]
  exact qqg (by simpa using h)
theorem qxl {a b m:Nat}(ha:a<2^m)(hb:b%2^m=0)(h:a+b<9223372036854775808):ior .i64 (b:Int) (a:Int)=((b+a:Nat):Int):=by
 unfold ior
 have h1:(qye (IntKind.bits .i64) (b:Int))=qyc 64 b:=by simp[IntKind.bits]
 have h2:(qye (IntKind.bits .i64) (a:Int))=qyc 64 a:=by simp[IntKind.bits]
 rw[h1,h2]
 have h3:b ||| a=b+a:=by
  have hy2:b=2^m*(b/2^m):=by have:=qzV b (2^m);omega
  have h4:=Nat.two_pow_add_eq_or_of_lt ha (b/2^m)
  rw[← hy2] at h4
  rw[← h4]
 have h4:(qyc 64 b ||| qyc 64 a).toNat=b+a:=by
  rw[BitVec.toNat_or,qyy,qyy,qya (a:=b) (by omega),qya (a:=a) (by omega),h3]
 show IntKind.wrap .i64 ((qyc 64 b ||| qyc 64 a).toNat:Int)=_
 rw[h4]
 exact qX (by omega) (by omega)
theorem qti {F t i x:Nat}(hF:20000≤F)(ht:t≤1048576){l:List Nat}(hlm:l.length≤300)(hu:Up t 0 l)(hf:Fits t l)(hx:l[i]?=some x) :
  qcv F (l.length:Int) (t:Int) (wd l.length t:Int) ((loF t l).length:Int) (pk (loF t l)) ((hiF t l).length:Int) (pk (hiF t l)) (i:Int)=some (x:Int):=by
 unfold qcv
 have hw:=qi9 (n:=l.length) ht
 have hi:i<l.length:=(qxQ.1 hx).1
 have hL:(loF t l).length≤8192:=by rw[qfW];exact hf.1
 have hH:(hiF t l).length≤8192:=by rw[qgJ hu];exact hf.2
 have hxt:=(qle hu x (qxM hx)).2
 have hmul:i*wd l.length t+wd l.length t≤(loF t l).length:=by
  rw[qfW,← Nat.succ_mul];exact qyf _ hi
 rw[qkM hF (l:=hiF t l) (qin _ _ _ _) (by omega) (by omega),qrt hu,hx]
 simp only[qyg,qxD]
 have hdx:x/2^wd l.length t≤x:=qyT _ _
 have hz:0≤x/2^wd l.length t:=qx7 _
 rw[qjh (by omega),qgQ (l:=loF t l) (by omega) (qhG _ _) hL (by omega) (by omega),if_pos hmul]
 simp only[qxD]
 have hc:decide ((0:Int)≤((wd l.length t:Nat):Int))=true:=decide_eq_true (by omega)
 rw[hc]
 simp only[chk,if_true,lett]
 have hg:((loF t l).drop (i*wd l.length t)).take (wd l.length t)=nb x (wd l.length t):=qqg hx
 have hp20:2^wd l.length t≤2^20:=qx4 (by decide) hw
 rw[show (2:Nat)^20=1048576 from by decide] at hp20
 have hml:=Nat.mod_lt x (show 0<2^wd l.length t from qyN (by decide))
 have hdm:=qzV x (2^wd l.length t)
 have hdm2:x/2^wd l.length t*2^wd l.length t≤x:=Nat.div_mul_le_self _ _
 rw[hg,qkk,qnG (by omega) (by omega),qx6,qp8 (by omega) (by omega),yA (by omega),qxl (m:=wd l.length t) hml (Nat.mul_mod_left _ _) (by omega)]
 rw[qzi] at hdm
 rw[hdm]
theorem qjk {F:Nat}{l:qAq}(hl:Bit l)(hm:l.length≤10000)(bit:Int):∀ (k j c:Nat),l.length<k+j→j≤l.length→1≤c→c+(l.length-j)≤100000 →
  ∃ s,qW F (fun (x31:Int) (x37:Int)=>q5 F x31 x37) (l.length:Int) (pk l) bit k ((j:Int),-(c:Int))=some (.inl s)
 | 0,_,_,_,_,_,_=>by omega
 | k+1,j,c,h,hj,hc,hcm=>by
  have e:qW F (fun (x31:Int) (x37:Int)=>q5 F x31 x37) (l.length:Int) (pk l) bit (k+1) ((j:Int),-(c:Int)) =
   yo F (fun (x31:Int) (x37:Int)=>q5 F x31 x37) (l.length:Int) (pk l) bit (qW F (fun (x31:Int) (x37:Int)=>q5 F x31 x37) (l.length:Int) (pk l) bit k) (j:Int) (-(c:Int)):=rfl
  rw[e]
  unfold yo
  by_cases hlt:j<l.length
  ·rw[if_pos (by simp;omega),qoB hl (by omega) hlt]
   simp only[qxD]
   have hr:q5 F (-(c:Int)) (j:Int)=some (.inl (-((c+1:Nat):Int))):=by
    unfold q5
    rw[if_neg (by simp;omega),qy (by omega) (by omega)]
    congr 2;omega
   by_cases h1:l[j]=bit
   ·rw[if_pos (by simpa using h1),hr]
    simp only[qxD,Sum.elim_inl,kB]
    rw[qn (by omega)]
    exact qjk hl hm bit k (j+1) (c+1) (by omega) (by omega) (by omega) (by omega)
   ·rw[if_neg (by simpa using h1)]
    simp only[kB]
    rw[qn (by omega)]
    exact qjk hl hm bit k (j+1) c (by omega) (by omega) hc (by omega)
  ·rw[if_neg (by simp;omega)]
   exact ⟨_,rfl⟩
theorem qtZ {F:Nat}(hF:20000≤F){l:qAq}(hl:Bit l)(hm:l.length≤10000){bit:Int}:qaJ F (l.length:Int) (pk l) bit (-1)=some (-1):=by
 unfold qaJ
 simp only[qeC,qxD,qdc]
 obtain ⟨s,hs⟩:=qjk (F:=F) hl hm bit F 0 1 (by omega) (by omega) (by omega) (by omega)
 have h2:qW F (fun (x31:Int) (x37:Int)=>q5 F x31 x37) (l.length:Int) (pk l) bit F (0,-1)=some (.inl s):=hs
 rw[h2]
 rfl
theorem qtj {F:Nat}{xs ys:qAq}(he:xs.length=ys.length)(hm:xs.length≤9223372036854775807):∀ (k i:Nat),xs.length<k+i→i≤xs.length→qU F xs ys k (i:Int)=some (decide (xs.drop i=ys.drop i))
 | 0,_,_,_=>by omega
 | k+1,i,h,hi=>by
  show zr F xs ys (qU F xs ys k) (i:Int)=_
  unfold zr
  by_cases hlt:i<xs.length
  ·have hlt':i<ys.length:=by omega
   rw[if_pos (by simp;omega),qt,qxE hlt,qt,qxE hlt']
   simp only[qxD]
   rw[qxI hlt,qxI hlt']
   by_cases hc:xs[i]=ys[i]
   ·rw[if_neg (by simp[hc]),qn (by omega),qtj he hm k (i+1) (by omega) (by omega)]
    congr 1
    rw[decide_eq_decide,qzj]
    exact ⟨fun h=>⟨hc,h⟩,fun h=>h.2⟩
   ·rw[if_pos (by simpa using hc),decide_eq_false (fun e=>hc (qAh e).1)]
  ·rw[if_neg (by simp;omega),qxN (by omega),qxN (by omega)]
   rfl
theorem feqb {F:Nat}{xs ys:qAq}(hF:xs.length<F)(hm:xs.length≤9223372036854775807):q6 F xs ys=some (decide (xs=ys)):=by
 unfold q6
 by_cases h:xs.length=ys.length
 ·rw[if_neg (by simp[h])]
  have:=qtj (F:=F) h hm F 0 (by omega) (qx7 _)
  rw[qxT,qxT] at this
  exact this
 ·rw[if_pos (by simp;omega),decide_eq_false (fun e=>h (by rw[e]))]
theorem qoQ {F:Nat}{n m:Int}{xs ys:qAq}(hF:xs.length<F)(hm:xs.length≤9223372036854775807):qeH F n xs m ys=some (decide (n=m∧xs=ys)):=by
 unfold qeH
 by_cases h:n=m
 ·have hb:(n == m)=true:=by simp[h]
  rw[if_pos hb,feqb hF hm]
  simp[qbY,h]
 ·have hb:(n == m)=false:=by simpa using h
  rw[hb]
  simp[qbY,h]
def FWr (t:Nat)(ns:List Nat)(lw:Int)(lb:qAq)(hw:Int)(hb:qAq):Prop :=
 ns.length≤300∧Up t 0 ns∧Fits t ns∧lw=((loF t ns).length:Int)∧lb=pk (loF t ns)∧hw=((hiF t ns).length:Int)∧hb=pk (hiF t ns)
theorem qxn {F t:Nat}(hF:20000≤F)(ht:t≤1048576){lw hw:Int}{lb hb out:qAq} :
  (∃ ns,out=lc ns∧FWr t ns lw lb hw hb∧yG F (t:Int) lw lb hw hb out=some (out,0)) ∨
  ((¬ ∃ ns,out=lc ns∧FWr t ns lw lb hw hb)∧yG F (t:Int) lw lb hw hb out=some ([],1)):=by
 unfold yG
 rw[ql6 hF]
 simp only[qxD]
 by_cases h:fkc out (t:Int)=0
 ·obtain ⟨ns,k,e,hk,rfl,hm,hu⟩:=qik.1 h
  obtain rfl:t=k:=by omega
  rw[h,if_neg (by simp),qq3 hF hk hm hu]
  simp only[qxD]
  have huniq:∀ ns',lc ns=lc ns'→ns=ns':=fun ns' e=>by have:=congrArg nl e;rwa [qo4,qo4] at this
  by_cases hf:Fits t ns
  ·have hL:(loF t ns).length≤8192:=by rw[qfW];exact hf.1
   have hH:(hiF t ns).length≤8192:=by rw[qgJ hu];exact hf.2
   have hpL:=qo9 hL
   have hpH:=qo9 hH
   rw[if_pos hf]
   simp only[T8,qys,qxP,if_false]
   rw[qoQ (by omega) (by omega)]
   simp only[qxD]
   by_cases h1:((loF t ns).length:Int)=lw∧pk (loF t ns)=lb
   ·rw[decide_eq_true h1]
    simp only[qys,qby,qxP,if_false]
    rw[qoQ (by omega) (by omega)]
    simp only[qxD]
    by_cases h2:((hiF t ns).length:Int)=hw∧pk (hiF t ns)=hb
    ·rw[decide_eq_true h2]
     left
     exact ⟨ns,rfl,⟨hm,hu,hf,h1.1.symm,h1.2.symm,h2.1.symm,h2.2.symm⟩,rfl⟩
    ·rw[decide_eq_false h2]
     right
     refine ⟨?_,rfl⟩
     rintro ⟨ns',e1,w⟩
     rw[← huniq ns' e1] at w
     exact h2 ⟨w.2.2.2.2.2.1.symm,w.2.2.2.2.2.2.symm⟩
   ·rw[decide_eq_false h1]
    right
    refine ⟨?_,rfl⟩
    rintro ⟨ns',e1,w⟩
    rw[← huniq ns' e1] at w
    exact h1 ⟨w.2.2.2.1.symm,w.2.2.2.2.1.symm⟩
  ·rw[if_neg hf]
   right
   refine ⟨?_,rfl⟩
   rintro ⟨ns',e1,w⟩
   rw[← huniq ns' e1] at w
   exact hf w.2.2.1
 ·rw[if_pos (by simpa using h)]
  right
  refine ⟨?_,rfl⟩
  rintro ⟨ns,rfl,w⟩
  exact h (qik.2 ⟨ns,t,rfl,ht,rfl,w.1,w.2.1⟩)
def Good (l:List Nat)(n t w lw:Int)(lb:qAq)(hw:Int)(hb:qAq):Prop :=
 ∃ k:Nat,t=k∧k≤1048576∧n=(l.length:Int)∧w=((wd l.length k:Nat):Int)∧FWr k l lw lb hw hb
def Rg (n t:Int):Prop:=0≤n∧n≤300∧0≤t∧t≤1048576
instance rgDec (n t:Int):Decidable (Rg n t):=inferInstanceAs (Decidable (_∧_))
theorem qvs {l:List Nat}{n t w lw hw:Int}{lb hb:qAq}(h:Good l n t w lw lb hw hb):Rg n t:=by
 obtain ⟨k,rfl,hk,rfl,_,h1,_⟩:=h
 exact ⟨by omega,by omega,by omega,by omega⟩
theorem qtP {F t n w:Nat}{lw hw:Int}{lb hb:qAq}(f:Nat→Int)(hn:n≤300)(hat:∀ i,i<n→qcv F (n:Int) (t:Int) (w:Int) lw lb hw hb (i:Int)=some (f i)):∀ (k i:Nat),n<k+i→i≤n →
  yH F (n:Int) (t:Int) (w:Int) lw lb hw hb k ((qyr i).map f,(i:Int))=yG F (t:Int) lw lb hw hb ((qyr n).map f)
 | 0,_,_,_=>by omega
 | k+1,i,h,hi=>by
  show qbx F (n:Int) (t:Int) (w:Int) lw lb hw hb (yH F (n:Int) (t:Int) (w:Int) lw lb hw hb k) ((qyr i).map f) (i:Int)=_
  unfold qbx
  by_cases hlt:i<n
  ·rw[if_pos (by simp;omega),hat i hlt]
   simp only[qxD]
   rw[qT (by simp;omega),qn (by omega)]
   simp only[qxD]
   have e:(qyr i).map f++[f i]=(qyr (i+1)).map f:=by rw[qzF,qy2];rfl
   rw[e]
   exact qtP f hn hat k (i+1) (by omega) (by omega)
  ·rw[if_neg (by simp;omega)]
   obtain rfl:i=n:=by omega
   rfl
theorem qlT {F:Nat}(hF:20000≤F){n t w lw hw:Int}{lb hb:qAq}(ul:U8s lb)(uh:U8s hb)(il:I64 lw)(ih:I64 hw)(ll:lb.length≤9223372036854775807)(lh:hb.length≤9223372036854775807) :
  (∃ l,Good l n t w lw lb hw hb∧j5 F n t w lw lb hw hb=some (lc l,0)) ∨
  ((¬ ∃ l,Good l n t w lw lb hw hb)∧j5 F n t w lw lb hw hb=some ([],if Rg n t then 1 else 3)):=by
 unfold j5
 by_cases hr:Rg n t
 ·obtain ⟨n,rfl⟩:=qxK hr.1
  obtain ⟨t,rfl⟩:=qxK hr.2.2.1
  have hn:n≤300:=by have:=hr.2.1;omega
  have ht:t≤1048576:=by have:=hr.2.2.2;omega
  have hw20:=qi9 (n:=n) ht
  rw[if_neg (by simp;omega),if_pos hr,qpG hF hn ht]
  simp only[qxD]
  by_cases hw1:w=((wd n t:Nat):Int)
  ·subst hw1
   rw[if_neg (by simp),qkm ul il.1 il.2 ll]
   simp only[qxD]
   rcases qiG ul (n:=lw) with h1 | ⟨L,hL,hLm,rfl,rfl⟩
   ·right
    refine ⟨?_,by rw[if_pos (by simpa using h1)];rfl⟩
    rintro ⟨l,k,e,hk,e2,_,g1,g2,g3,rfl,rfl,_⟩
    exact h1 (qij (by rw[qfW];exact g3.1))
   rw[qij hLm,if_neg (by simp),qkm uh ih.1 ih.2 lh]
   simp only[qxD]
   rcases qiG uh (n:=hw) with h1 | ⟨H,hH,hHm,rfl,rfl⟩
   ·right
    refine ⟨?_,by rw[if_pos (by simpa using h1)];rfl⟩
    rintro ⟨l,k,e,hk,e2,_,g1,g2,g3,_,_,rfl,rfl⟩
    exact h1 (qij (by rw[qgJ g2];exact g3.2))
   have hmul:n*wd n t≤300*20:=qzf hn hw20
   rw[qij hHm,if_neg (by simp),qjh (by omega)]
   by_cases hl1:L.length=n*wd n t
   ·rw[if_neg (by rw[hl1];simp)]
    have hfin:(n=0∨∃ q,plc 1 H (n-1)=some q) →
      (∃ l,Good l (n:Int) (t:Int) ((wd n t:Nat):Int) (L.length:Int) (pk L) (H.length:Int) (pk H)∧zH F (n:Int) (t:Int) ((wd n t:Nat):Int) (L.length:Int) (pk L) (H.length:Int) (pk H) false=some (lc l,0)) ∨
      ((¬ ∃ l,Good l (n:Int) (t:Int) ((wd n t:Nat):Int) (L.length:Int) (pk L) (H.length:Int) (pk H))∧zH F (n:Int) (t:Int) ((wd n t:Nat):Int) (L.length:Int) (pk L) (H.length:Int) (pk H) false=some ([],1)):=by
     intro hpl
     unfold zH
     rw[if_neg (by simp)]
     have hat:∃ f:Nat→Int,∀ i,i<n→qcv F (n:Int) (t:Int) ((wd n t:Nat):Int) (L.length:Int) (pk L) (H.length:Int) (pk H) (i:Int)=some (f i):=by
      have h1:∀ i,∃ v:Int,i<n→qcv F (n:Int) (t:Int) ((wd n t:Nat):Int) (L.length:Int) (pk L) (H.length:Int) (pk H) (i:Int)=some v:=by
       intro i
       by_cases hi:i<n
       ·unfold qcv
        have hm2:i*wd n t+wd n t≤L.length:=by rw[hl1,← Nat.succ_mul];exact qyf _ hi
        have hc:decide ((0:Int)≤((wd n t:Nat):Int))=true:=decide_eq_true (by omega)
        rw[qkM hF hH (by omega) (by omega)]
        simp only[qxD]
        rw[qjh (by omega),qgQ (by omega) hL hLm (by omega) (by omega)]
        simp only[qxD]
        rw[hc]
        simp only[chk,if_true,lett]
        exact ⟨_,fun _=>rfl⟩
       ·exact ⟨0,fun h=>absurd h hi⟩
      exact ⟨fun i=>Classical.choose (h1 i),fun i hi=>Classical.choose_spec (h1 i) hi⟩
     obtain ⟨f,hat⟩:=hat
     have hl9:=qtP (F:=F) (t:=t) (n:=n) (w:=wd n t) f hn hat F 0 (by omega) (by omega)
     rw[show (qyr 0).map f=[] from rfl,show ((0:Nat):Int)=0 from rfl] at hl9
     rw[hl9]
     rcases qxn (F:=F) (t:=t) hF ht (lw:=(L.length:Int)) (lb:=pk L) (hw:=(H.length:Int)) (hb:=pk H) (out:=(qyr n).map f) with ⟨ns,e,w,hM⟩ | ⟨hno,hM⟩
     ·have hnl:ns.length=n:=by have:=congrArg List.length e;rw[qaN] at this;simp at this;omega
      left
      exact ⟨ns,⟨t,rfl,ht,by rw[hnl],by rw[hnl],w⟩,by rw[hM,e]⟩
     ·right
      refine ⟨?_,hM⟩
      rintro ⟨l,k,e1,hk,e2,e3,w⟩
      obtain rfl:t=k:=by omega
      have hnl:n=l.length:=by omega
      apply hno
      refine ⟨l,?_,w⟩
      obtain ⟨w1,w2,w3,w4,w5,w6,w7⟩:=w
      apply List.ext_getElem?
      intro i
      by_cases hi:i<n
      ·have hx:l[i]?=some l[i]:=qxE (by omega)
       have h2:=qti hF ht w1 w2 w3 hx
       have h3:=hat i hi
       rw[hnl,w4,w5,w6,w7,h2] at h3
       have h4:(lc l)[i]?=some ((l[i]:Nat):Int):=by simp[lc,show i<l.length by omega]
       rw[h4,qyM,qzr hi]
       exact h3.symm
      ·rw[qx2 (by simp;omega),qx2 (by rw[qaN];omega)]
    have hnoform:n≠0→plc 1 H (n-1)=none→¬ ∃ l,Good l (n:Int) (t:Int) ((wd n t:Nat):Int) (L.length:Int) (pk L) (H.length:Int) (pk H):=by
     rintro h0 hp ⟨l,k,e1,hk,e2,e3,w1,w2,w3,w4,w5,w6,w7⟩
     obtain rfl:t=k:=by omega
     have hnl:n=l.length:=by omega
     have hHe:H=hiF t l:=qql hH (qin _ _ _ _) (by omega) w7
     rw[hHe,qrt w2,qxE (show n-1<l.length by omega)] at hp
     simp at hp
    by_cases h0:n=0
    ·subst h0
     have:isub .i64 ((0:Nat):Int) 1=-1:=by decide
     rw[this,qtZ hF hH (by omega)]
     simp only[qxD]
     rw[if_pos (by simp)]
     exact hfin (.inl rfl)
    ·rw[yO (by omega) (by omega),qkM hF hH (by omega) (by omega)]
     simp only[qxD]
     cases hp:plc 1 H (n-1) with
     | none =>
      right
      refine ⟨hnoform h0 hp,?_⟩
      simp only
      rw[if_pos (by simp),decide_eq_true (show (0:Int)<(n:Int) by omega)]
      rfl
     | some q =>
      simp only
      rw[if_neg (by simp)]
      exact hfin (.inr ⟨q,hp⟩)
   ·right
    refine ⟨?_,by rw[if_pos (by rw[bne_iff_ne];omega)];rfl⟩
    rintro ⟨l,k,e1,hk,e2,e3,w1,w2,w3,w4,_⟩
    obtain rfl:t=k:=by omega
    have hnl:n=l.length:=by omega
    rw[qfW] at w4
    rw[hnl] at hl1
    omega
  ·right
   refine ⟨?_,by rw[if_pos (by simpa using hw1)];rfl⟩
   rintro ⟨l,k,e1,hk,e2,e3,_⟩
   obtain rfl:t=k:=by omega
   have hnl:n=l.length:=by omega
   rw[← hnl] at e3
   exact hw1 e3
 ·right
  refine ⟨fun ⟨l,h⟩=>hr (qvs h),?_⟩
  rw[if_pos (by unfold Rg at hr;simp only[qyC,decide_eq_true_eq];omega),if_neg hr]
def cq (w h:Nat)(l:List Nat):Nat:=(l.filter fun x=>x/2^w=h).length
theorem qjX (w h x:Nat)(l:List Nat):cq w h (x::l)=(if x/2^w=h then 1 else 0)+cq w h l:=by
 unfold cq
 by_cases e:x/2^w=h <;> simp[e] <;> omega
theorem qxz {w h:Nat}{l:List Nat}(hl:∀ x∈l,h<x/2^w):cq w h l=0:=by
 induction l with
 | nil=>rfl
 | cons x l ih =>
  have:=hl x qx5
  rw[qjX,if_neg (by omega),ih (fun y hy=>hl y (qxZ _ hy))]
def seg (w:Nat)(l:List Nat)(a:Nat):Nat→qAq
 | 0=>[]
 | m+1=>qxJ (cq w a l) 1++0::seg w l (a+1) m
theorem qpp {w x:Nat}{l:List Nat}:∀ {m a:Nat},x/2^w<a→seg w (x::l) a m=seg w l a m
 | 0,_,_=>rfl
 | m+1,a,h=>by rw[seg,seg,qjX,if_neg (by omega),qyj,qpp (by omega)]
theorem qrP {w:Nat}:∀ {m a:Nat},seg w [] a m=qxJ m 0
 | 0,_=>rfl
 | m+1,a=>by rw[seg,qrP,qyk];rfl
theorem qiZ {w:Nat}{l:List Nat}:∀ {m a:Nat},seg w l a (m+1)=seg w l a m++(qxJ (cq w (a+m) l) 1++[0])
 | 0,a=>by simp[seg]
 | m+1,a=>by
  rw[seg,qiZ (m:=m) (a:=a+1),seg,show a+1+m=a+(m+1) from by omega]
  simp[qxG]
theorem qp6 {w last:Nat}:∀ {m:Nat} {l:List Nat} {a:Nat},a+m=last→(∀ x∈l,a≤x/2^w∧x/2^w<last)→(∀ j x,l[j]?=some x→∀ y∈l.drop (j+1),x/2^w≤y/2^w)→hp w last a l=seg w l a m
 | 0,l,a,ha,hl,_=>by
  cases l with
  | nil=>rw[hp,show last-a=0 from by omega];rfl
  | cons x l=>have:=hl x qx5;omega
 | m+1,[],a,ha,_,_=>by rw[hp,qrP,show last-a=m+1 from by omega]
 | m+1,x::l,a,ha,hl,hs=>by
  have hx:=hl x qx5
  have h0:=hs 0 x rfl
  rw[qyL,qxT] at h0
  have hs':∀ j y,l[j]?=some y→∀ z∈l.drop (j+1),y/2^w≤z/2^w:=fun j y hj=>by
   have:=hs (j+1) y (by simpa using hj)
   rwa [qyL] at this
  by_cases he:x/2^w=a
  ·have ih:=qp6 (m:=m+1) (l:=l) (a:=a) ha (fun y hy=>⟨by have:=h0 y hy;omega,(hl y (qxZ _ hy)).2⟩) hs'
   rw[hp,he,Nat.sub_self,List.replicate_zero,qxV,ih,seg,seg,qjX,if_pos he,qpp (by omega),qy5 1,qyk]
   rfl
  ·have ih:=qp6 (w:=w) (last:=last) (m:=m) (l:=x::l) (a:=a+1) (by omega) (fun y hy=>by
    have ⟨u1,u2⟩:=hx
    rcases qxO.1 hy with rfl | hy
    ·constructor
     ·omega
     ·exact u2
    ·have u3:=h0 y hy
     have u4:=(hl y (qxZ _ hy)).2
     constructor
     ·omega
     ·exact u4) hs
   rw[seg,qxz (by
    intro y hy
    have u1:=hx.1
    rcases qxO.1 hy with rfl | hy
    ·omega
    ·have u3:=h0 y hy
     omega),← ih,hp,hp,show x/2^w-a=(x/2^w-(a+1))+1 from by omega,qyk]
   rfl
 termination_by m l _=>(m,l.length)
theorem qrd {t:Nat}{l:List Nat}(hu:Up t 0 l):hiF t l=seg (wd l.length t) l 0 (t/2^wd l.length t+1):=by
 unfold hiF
 refine qp6 (by omega) (fun x hx=>⟨qx7 _,?_⟩) (qj4 hu)
 have:=qy0 (c:=2^wd l.length t) (qle hu x hx).2
 omega
theorem qp7 {a b:Nat}(ha:a<9223372036854775808):iquo .i64 (a:Int) (b:Int)=((a/b:Nat):Int):=by
 unfold iquo
 rw[qyG (by omega),← Int.natCast_ediv]
 have:=qyT a b
 generalize a/b=q at this
 exact qX (by omega) (by omega)
theorem qkB {l:List Nat}{i:Nat}(hi:i<l.length):(lc l)[i]?=some ((l[i]:Nat):Int):=by simp[lc,hi]
theorem qnv {F w:Nat}{rec104:(qAq×Int)→Option F8}{l:List Nat}{h:Nat}(hw:w≤20)(hl:∀ x∈l,x≤1048576)(hlm:l.length≤300):∀ (k i:Nat) (o:qAq),l.length<k+i→i≤l.length→o.length+(l.length-i)≤100000 →
  kx F rec104 (lc l) ((2^w:Nat):Int) (h:Int) k (o,(i:Int))=qat F rec104 (h:Int) (o++qxJ (cq w h (l.drop i)) 1)
 | 0,_,_,_,_,_=>by omega
 | k+1,i,o,hk,hi,ho=>by
  show qaq F rec104 (lc l) ((2^w:Nat):Int) (h:Int) (kx F rec104 (lc l) ((2^w:Nat):Int) (h:Int) k) o (i:Int)=_
  unfold qaq
  have hp0:0<2^w:=qyN (by decide)
  have hc:(((2^w:Nat):Int) != 0)=true:=by rw[bne_iff_ne];omega
  by_cases hlt:i<l.length
  ·have hx:=hl _ (qx8 hlt)
   rw[qaN,if_pos (by simp;omega),qt,qkB hlt,qxI hlt,qjX]
   simp only[qxD]
   rw[hc]
   simp only[chk,if_true]
   rw[qp7 (by omega)]
   by_cases he:l[i]/2^w=h
   ·rw[if_pos he,if_pos (by rw[he];simp),qT (by simp;omega)]
    simp only[qxD,vy]
    rw[qn (by omega),qnv hw hl hlm k (i+1) _ (by omega) (by omega) (by simp;omega)]
    rw[qy5 1,qyk,qxG];rfl
   ·rw[if_neg he,if_neg (by rw[beq_iff_eq];omega)]
    simp only[vy]
    rw[qn (by omega),qnv hw hl hlm k (i+1) _ (by omega) (by omega) (by omega),qyj]
  ·rw[qaN,if_neg (by simp;omega),qxN (by omega)]
   have:cq w h []=0:=rfl
   rw[this];simp
theorem qpo {w:Nat}{l:List Nat}{a m:Nat}:∀ k,(seg w l a m).length≤(seg w l a (m+k)).length
 | 0=>qxY _
 | k+1=>by
  have:=qpo (w:=w) (l:=l) (a:=a) (m:=m) k
  rw[← qyF,qiZ,qxF];omega
theorem qtr {F t:Nat}(hF:20000≤F){l:List Nat}{L:qAq}(hL:Bit L)(hLm:L.length≤8192)(ht:t≤1048576)(hlm:l.length≤300)(hu:Up t 0 l)(hf:Fits t l):∀ (k h:Nat),t/2^wd l.length t+1<k+h→h≤t/2^wd l.length t+1 →
  qV F (lc l) (t:Int) ((wd l.length t:Nat):Int) ((2^wd l.length t:Nat):Int) L k (seg (wd l.length t) l 0 h,(h:Int)) =
   some ((l.length:Int),(t:Int),((wd l.length t:Nat):Int),(L.length:Int),pk L,((hiF t l).length:Int),pk (hiF t l),0)
 | 0,_,_,_=>by omega
 | k+1,h,hk,hh=>by
  show qap F (lc l) (t:Int) ((wd l.length t:Nat):Int) ((2^wd l.length t:Nat):Int) L (qV F (lc l) (t:Int) ((wd l.length t:Nat):Int) ((2^wd l.length t:Nat):Int) L k) (seg (wd l.length t) l 0 h) (h:Int)=_
  unfold qap
  have hw:=qi9 (n:=l.length) ht
  have hp0:0<2^wd l.length t:=qyN (by decide)
  have hc:(((2^wd l.length t:Nat):Int) != 0)=true:=by rw[bne_iff_ne];omega
  have f2:=hf.2
  rw[hc]
  simp only[chk,if_true]
  rw[qp7 (by omega)]
  by_cases hlt:h≤t/2^wd l.length t
  ·have hH:(hiF t l).length≤8192:=by rw[qgJ hu];exact hf.2
   have hs1:=qpo (w:=wd l.length t) (l:=l) (a:=0) (m:=h+1) (t/2^wd l.length t+1-(h+1))
   rw[show h+1+(t/2^wd l.length t+1-(h+1))=t/2^wd l.length t+1 from by omega,← qrd hu,qiZ,qxF,qxF,qyh,qyj] at hs1
   rw[if_pos (by simp only[decide_eq_true_eq];omega)]
   have:=qnv (F:=F) (rec104:=qV F (lc l) (t:Int) ((wd l.length t:Nat):Int) ((2^wd l.length t:Nat):Int) L k) (h:=h) hw (fun x hx=>by have:=(qle hu x hx).2;omega) hlm F 0 (seg (wd l.length t) l 0 h) (by omega) (by omega) (by omega)
   rw[qxT] at this
   rw[show ((0:Nat):Int)=0 from rfl] at this
   rw[this]
   unfold qat
   rw[qT (by rw[qxF,qyh];simp;omega)]
   simp only[qxD,qdg]
   have e:seg (wd l.length t) l 0 h++qxJ (cq (wd l.length t) h l) 1++[0]=seg (wd l.length t) l 0 (h+1):=by
    rw[qiZ,qyj,qxG]
   rw[e,qn (by omega)]
   exact qtr hF hL hLm ht hlm hu hf k (h+1) (by omega) (by omega)
  ·obtain rfl:h=t/2^wd l.length t+1:=by omega
   rw[if_neg (by simp only[decide_eq_true_eq];omega)]
   unfold qdw
   have hH:(hiF t l).length≤8192:=by rw[qgJ hu];exact hf.2
   rw[qhj hF hL (by omega),← qrd hu]
   simp only[qxD]
   rw[qhj hF (l:=hiF t l) (qin _ _ _ _) (by omega)]
   simp only[qxD,qaN]
theorem qts {F t w:Nat}(hw:w≤20){l:List Nat}(ht:t≤1048576)(hlm:l.length≤300)(hu:Up t 0 l):∀ (k i:Nat),l.length<k+i→i≤l.length→F≥20000 →
  yj F (lc l) (t:Int) (w:Int) ((2^w:Nat):Int) k (lo' w (l.take i),(i:Int))=qb8 F (lc l) (t:Int) (w:Int) ((2^w:Nat):Int) (lo' w l)
 | 0,_,_,_,_=>by omega
 | k+1,i,h,hi,hF=>by
  show qar F (lc l) (t:Int) (w:Int) ((2^w:Nat):Int) (yj F (lc l) (t:Int) (w:Int) ((2^w:Nat):Int) k) (lo' w (l.take i)) (i:Int)=_
  unfold qar
  have hp0:0<2^w:=qyN (by decide)
  have hc:(((2^w:Nat):Int) != 0)=true:=by rw[bne_iff_ne];omega
  by_cases hlt:i<l.length
  ·have hx:=(qle hu _ (qx8 hlt)).2
   have hml:=qAg l[i] (2^w)
   rw[qaN,if_pos (by simp;omega),qt,qkB hlt]
   simp only[qxD]
   rw[hc]
   simp only[chk,if_true]
   have hl2:(lo' w (l.take i)).length≤300*20:=by
    rw[qnL]
    exact qzf (by simp;omega) hw
   rw[qw9,zz (by omega),qiq (by omega) (by omega) (by omega),qqi (qxY _)]
   simp only[qxD]
   rw[qT (by rw[qbj];omega),qn (by omega)]
   simp only[qxD]
   have e:lo' w (l.take i)++nb l[i] w=lo' w (l.take (i+1)):=by
    rw[qzb,qxE hlt,qvB]
    simp[lo']
   rw[e]
   exact qts hw ht hlm hu k (i+1) (by omega) (by omega) hF
  ·rw[qaN,if_neg (by simp;omega)]
   obtain rfl:i=l.length:=by omega
   rw[qzq]
theorem qnr {F:Nat}(hF:20000≤F){l:qAq}{t:Int}:qeg F l t=some (fw l t):=by
 unfold qeg
 rw[qvn hF]
 simp only[qxD]
 by_cases h:fkc l t=0
 ·obtain ⟨ns,k,rfl,hk,rfl,hm,hu⟩:=qik.1 h
  have hw:=qi9 (n:=ns.length) hk
  have hp20:2^wd ns.length k≤2^20:=qx4 (by decide) hw
  rw[show (2:Nat)^20=1048576 from by decide] at hp20
  have hp0:0<2^wd ns.length k:=qyN (by decide)
  have hc:(((2^wd ns.length k:Nat):Int) != 0)=true:=by rw[bne_iff_ne];omega
  rw[(qnu hk hm hu).2,h,if_neg (by simp),qaN,qso hF hm hk]
  simp only[qxD]
  have hpw:∀ (j i:Nat),wd ns.length k<j+i→i≤wd ns.length k→yk F (lc ns) (k:Int) ((wd ns.length k:Nat):Int) j (((2^i:Nat):Int),(i:Int))=qb6 F (lc ns) (k:Int) ((wd ns.length k:Nat):Int) ((2^wd ns.length k:Nat):Int):=by
   intro j
   induction j with
   | zero=>intro i h1 h2;omega
   | succ j ih =>
    intro i h1 h2
    show qas F (lc ns) (k:Int) ((wd ns.length k:Nat):Int) (yk F (lc ns) (k:Int) ((wd ns.length k:Nat):Int) j) ((2^i:Nat):Int) (i:Int)=_
    unfold qas
    by_cases hlt:i<wd ns.length k
    ·have hpi:2^i≤2^20:=qx4 (by decide) (by omega)
     rw[show (2:Nat)^20=1048576 from by decide] at hpi
     rw[if_pos (by simp;omega),qjZ (by omega),qn (by omega),show 2*2^i=2^(i+1) from by rw[qyS];omega]
     exact ih (i+1) (by omega) (by omega)
    ·obtain rfl:i=wd ns.length k:=by omega
     rw[if_neg (by simp)]
  have hp:=hpw F 0 (by omega) (by omega)
  rw[Nat.pow_zero] at hp
  rw[show (((1:Nat):Int),((0:Nat):Int))=((1:Int),(0:Int)) from rfl] at hp
  rw[hp]
  unfold qb6
  have hmul:ns.length*wd ns.length k≤300*20:=qzf hm hw
  have hdt:k/2^wd ns.length k≤k:=qyT _ _
  have hd0:0≤k/2^wd ns.length k:=qx7 _
  rw[qaN,qjh (by omega),if_neg (by simp only[decide_eq_true_eq];omega),hc]
  simp only[chk,if_true]
  rw[qp7 (by omega),vg (by omega),qn (by omega)]
  unfold qb7
  by_cases hf:Fits k ns
  ·have f2:=hf.2
   rw[if_pos hf,if_neg (by simp only[decide_eq_true_eq];omega)]
   have h1:=qts (F:=F) hw hk hm hu F 0 (by omega) (by omega) hF
   rw[List.take_zero,show lo' (wd ns.length k) []=[] from rfl,show ((0:Nat):Int)=0 from rfl] at h1
   rw[h1]
   unfold qb8
   have h2:=qtr hF (L:=loF k ns) (qhG _ _) (by rw[qfW];exact hf.1) hk hm hu hf F 0 (by omega) (by omega)
   exact h2
  ·rw[if_neg hf,if_pos (by unfold Fits at hf;simp only[decide_eq_true_eq];omega)]
   rfl
 ·rw[if_pos (by simpa using h),qp4 h];rfl
def rdn (w:Nat)(L:qAq):qAq→Nat→Nat→Nat→List Nat
 | [],_,_,_=>[]
 | _::_,_,0,_=>[]
 | b::H,h,m+1,k=>if b=0 then rdn w L H (h+1) (m+1) k else (h*2^w+bv ((L.drop (k*w)).take w))::rdn w L H h m (k+1)
theorem qxq {w:Nat}{L X:qAq}{h k:Nat}:rdn w L X h 0 k=[]:=by cases X <;> rfl
theorem qrB {w:Nat}{L X:qAq}{m k:Nat}:∀ {c h:Nat},rdn w L (qxJ c 0++X) h (m+1) k=rdn w L X (h+c) (m+1) k
 | 0,h=>by simp
 | c+1,h=>by
  rw[qyk,qyU,rdn,if_pos rfl,qrB,show h+1+c=h+(c+1) from by omega]
theorem quc {w last:Nat}{L:qAq}:∀ {l:List Nat} {a k:Nat},(∀ x∈l,a≤x/2^w)→(∀ j x,l[j]?=some x→∀ y∈l.drop (j+1),x/2^w≤y/2^w) →
  (∀ i x,l[i]?=some x→(L.drop ((k+i)*w)).take w=nb x w)→rdn w L (hp w last a l) a l.length k=l
 | [],a,k,_,_,_=>qxq
 | x::l,a,k,h,hs,hL=>by
  have hx:=h x qx5
  have h0:=hs 0 x rfl
  rw[qyL,qxT] at h0
  have h1:=hL 0 x rfl
  rw[qyO] at h1
  have ih:=quc (w:=w) (last:=last) (L:=L) (l:=l) (a:=x/2^w) (k:=k+1) h0 (fun j y hj=>by
    have:=hs (j+1) y (by simpa using hj)
    rwa [qyL] at this) (fun i y hy=>by
    have:=hL (i+1) y (by simpa using hy)
    rwa [show k+1+i=k+(i+1) from by omega])
  have hdm:=qzV x (2^w)
  rw[hp,qxX,qrB,rdn,if_neg (by decide),h1,qkk,show a+(x/2^w-a)=x/2^w from by omega,qzi,hdm,ih]
theorem qhq {F:Nat}{n t w lw hw n' t' w' lw' hw':Int}{lb hb lb' hb':qAq}(h1:lb.length<F)(h2:hb.length<F)(h3:lb.length≤9223372036854775807)(h4:hb.length≤9223372036854775807) :
  qdD F n t w lw lb hw hb n' t' w' lw' lb' hw' hb'=some (decide (n=n'∧t=t'∧w=w'∧lw=lw'∧lb=lb'∧hw=hw'∧hb=hb')):=by
 unfold qdD
 have hj:∀ b:Bool,qaS F hw hb hw' hb' b=some (b && decide (hw=hw'∧hb=hb')):=by
  intro b
  unfold qaS
  cases b with
  | true=>rw[if_pos rfl,qhp h2 h4];simp[qcX]
  | false=>rw[if_neg (by decide)];rfl
 by_cases h:(n=n'∧t=t')∧w=w'
 ·rw[if_pos (by simpa using h),qhp h1 h3]
  simp only[qxD]
  rw[hj]
  obtain ⟨⟨rfl,rfl⟩,rfl⟩:=h
  congr 1
  rw[← Bool.decide_and,decide_eq_decide]
  constructor
  ·rintro ⟨⟨a,b⟩,c,d⟩;exact ⟨rfl,rfl,rfl,a,b,c,d⟩
  ·rintro ⟨_,_,_,a,b,c,d⟩;exact ⟨⟨a,b⟩,c,d⟩
 ·rw[if_neg (by simpa using h),hj,Bool.false_and,decide_eq_false (by rintro ⟨a,b,c,_⟩;exact h ⟨⟨a,b⟩,c⟩)]
theorem qtq {l:qAq}{t:Int}:(∃ (ns:List Nat) (k:Nat),l=lc ns∧t=k∧k≤1048576∧ns.length≤300∧Up k 0 ns∧Fits k ns∧fw l t=fo8 k ns)∨(∃ e:Int,e≠0∧fw l t=fz8 e∧¬ ∃ (ns:List Nat) (k:Nat),l=lc ns∧t=k∧k≤1048576∧ns.length≤300∧Up k 0 ns∧Fits k ns):=by
 by_cases h:fkc l t=0
 ·obtain ⟨ns,k,rfl,hk,rfl,hm,hu⟩:=qik.1 h
  have hf2:=(qnu hk hm hu).2
  by_cases hf:Fits k ns
  ·left;exact ⟨ns,k,rfl,rfl,hk,hm,hu,hf,by rw[hf2,if_pos hf]⟩
  ·right
   refine ⟨8,by decide,by rw[hf2,if_neg hf],?_⟩
   rintro ⟨ns',k',e1,e2,_,_,_,f⟩
   obtain rfl:k=k':=by omega
   have:=congrArg nl e1
   rw[qo4,qo4] at this
   rw[← this] at f
   exact hf f
 ·right
  refine ⟨fkc l t,h,qp4 h,?_⟩
  rintro ⟨ns',k',e1,e2,h1,h2,h3,f⟩
  exact h (qik.2 ⟨ns',k',e2,h1,e1,h2,h3⟩)
theorem qoV {l:List Nat}{t:Nat}(hu:Up t 0 l):rdn (wd l.length t) (loF t l) (hiF t l) 0 l.length 0=l:=by
 unfold hiF
 refine quc (fun x _=>qx7 _) (qj4 hu) (fun i x hx=>?_)
 rw[qyj]
 exact qqg hx
theorem qsr {l l':List Nat}{n t w lw hw:Int}{lb hb:qAq}(g:Good l n t w lw lb hw hb)(g':Good l' n t w lw lb hw hb):l=l':=by
 obtain ⟨k,rfl,hk,a1,a2,a3,a4,a5,a6,a7,a8,a9⟩:=g
 obtain ⟨k',e,hk',b1,b2,b3,b4,b5,b6,b7,b8,b9⟩:=g'
 obtain rfl:k=k':=by omega
 have hlen:l.length=l'.length:=by omega
 have e1:loF k l=loF k l':=qql (qhG _ _) (qhG _ _) (by omega) (by rw[← a7,← b7])
 have e2:hiF k l=hiF k l':=qql (qin _ _ _ _) (qin _ _ _ _) (by omega) (by rw[← a9,← b9])
 rw[← qoV a4,← qoV b4,e1,e2,hlen]
theorem qj5 {t:Nat}:∀ {l:List Nat} {a:Nat},Up t a l→∀ {i j x y:Nat},i≤j→l[i]?=some x→l[j]?=some y→x≤y
 | [],_,_,i,j,x,y,_,h,_=>by simp at h
 | n::l,a,h,0,0,x,y,_,hx,hy=>by simp at hx hy;omega
 | n::l,a,h,0,j+1,x,y,_,hx,hy=>by
  simp at hx hy
  have:=(qle h.2.2 y (qxM hy)).1
  omega
 | n::l,a,h,i+1,0,x,y,hij,_,_=>by omega
 | n::l,a,h,i+1,j+1,x,y,hij,hx,hy=>qj5 h.2.2 (i:=i) (j:=j) (by omega) (by simpa using hx) (by simpa using hy)
def At (l:List Nat)(v:Int)(c:Nat):Prop:=c≤l.length∧(∀ (i x:Nat),i<c→l[i]?=some x→(x:Int)<v)∧(∀ (i x:Nat),c≤i→l[i]?=some x→v≤(x:Int))
theorem qxo {a b:Nat}(h:a+b<9223372036854775808):iconv .i64 (ishr .u64 (iconv .u64 (iadd .i64 (a:Int) (b:Int))) 1)=(((a+b)/2:Nat):Int):=by
 have h1:=qky (n:=a+b) (k:=1) (by omega)
 rw[show ((1:Nat):Int)=1 from rfl,Nat.pow_one] at h1
 rw[vg (by omega),zz (by omega),h1,yA (by omega)]
theorem qtF {F:Nat}{x:Int}:yp F x=some false:=by simp[yp]
theorem qtn {F:Nat}{x y:Int}:j3 F x y=some (decide (x<y)):=by
 simp[j3,qaY,jq]
def gf (l:List Nat)(i:Int):Int×Int:=match (if 0≤i then l[i.toNat]? else none) with | none=>(0,3) | some x=>((x:Int),0)
structure Bd (lw:Int) (lb:qAq) (hw:Int) (hb:qAq):Prop where
 ul:U8s lb
 uh:U8s hb
 il:I64 lw
 ih:I64 hw
 ll:lb.length≤9223372036854775807
 lh:hb.length≤9223372036854775807
theorem qtO {F:Nat}{n:Int}{t:Int}{w:Int}{lw:Int}{hw:Int}{lb:qAq}{hb:qAq}{l:List Nat}(hF:20000≤F)(b:Bd lw lb hw hb)(g:Good l n t w lw lb hw hb):j5 F n t w lw lb hw hb=some (lc l,0):=by
 rcases qlT (F:=F) (n:=n) (t:=t) (w:=w) hF b.ul b.uh b.il b.ih b.ll b.lh with ⟨k,g',h⟩ | ⟨h,_⟩
 ·rw[h,qsr g' g]
 ·exact absurd ⟨l,g⟩ h
theorem qtc {F:Nat}{n:Int}{t:Int}{w:Int}{lw:Int}{hw:Int}{lb:qAq}{hb:qAq}{l:List Nat}(hF:20000≤F)(b:Bd lw lb hw hb)(g:Good l n t w lw lb hw hb):qe2 F n t w lw lb hw hb=some 0:=by
 unfold qe2;rw[qtO hF b g];rfl
theorem qtx {F:Nat}{n:Int}{t:Int}{w:Int}{lw:Int}{hw:Int}{lb:qAq}{hb:qAq}{l:List Nat}(hF:20000≤F)(b:Bd lw lb hw hb)(g:Good l n t w lw lb hw hb){i:Int}:qfo F n t w lw lb hw hb i=some (gf l i):=by
 unfold qfo
 rw[qtc hF b g]
 simp only[qxD]
 rw[if_pos (by rfl)]
 obtain ⟨k,rfl,hk,rfl,rfl,w1,w2,w3,rfl,rfl,rfl,rfl⟩:=g
 unfold gf qet
 by_cases hi:0≤i∧i<(l.length:Int)
 ·obtain ⟨i,rfl⟩:=qxK hi.1
  have hx:l[i]?=some l[i]:=qxE (by omega)
  rw[if_neg (by simp;omega),if_pos hi.1,qxH,hx]
  unfold qes
  rw[if_neg (by simp),qti hF hk w1 w2 w3 hx]
  rfl
 ·rw[if_pos (by simp;omega)]
  have:(if 0≤i then l[i.toNat]? else none)=none:=by
   by_cases h0:0≤i
   ·rw[if_pos h0,qx2 (by omega)]
   ·rw[if_neg h0]
  rw[this];rfl
theorem qvr {l:List Nat}{k:Nat}(hk:k≤1048576)(hm:l.length≤300)(hu:Up k 0 l)(hf:Fits k l):Good l (l.length:Int) (k:Int) ((wd l.length k:Nat):Int) ((loF k l).length:Int) (pk (loF k l)) ((hiF k l).length:Int) (pk (hiF k l)) :=
 ⟨k,rfl,hk,rfl,rfl,hm,hu,hf,rfl,rfl,rfl,rfl⟩
theorem qxf {l:List Nat}{k:Nat}(hu:Up k 0 l)(hf:Fits k l):Bd ((loF k l).length:Int) (pk (loF k l)) ((hiF k l).length:Int) (pk (hiF k l)):=by
 have hL:(loF k l).length≤8192:=by rw[qfW];exact hf.1
 have hH:(hiF k l).length≤8192:=by rw[qgJ hu];exact hf.2
 exact ⟨qfF (qhG _ _),qfF (qin _ _ _ _),⟨by omega,by omega⟩,⟨by omega,by omega⟩,qrs hL,qrs hH⟩
theorem qs7 {F:Nat}(hF:2000000≤F){g:List (qAq)}{N B least k m:Int}{b:qAq}(hp:pkE g B least k=0) :
  qbg F g N B least k m b=some (if (fw (pkA g B least k.toNat g.length).2.2 m).2.2.2.2.2.2.2≠0 then (0,0,0,0,0,[],0,0,0,0,[],0,[],(fw (pkA g B least k.toNat g.length).2.2 m).2.2.2.2.2.2.2) else
   (N,B,least,k,m,b,(fw (pkA g B least k.toNat g.length).2.2 m).1,(fw (pkA g B least k.toNat g.length).2.2 m).2.1,(fw (pkA g B least k.toNat g.length).2.2 m).2.2.1,(fw (pkA g B least k.toNat g.length).2.2 m).2.2.2.1,(fw (pkA g B least k.toNat g.length).2.2 m).2.2.2.2.1,(fw (pkA g B least k.toNat g.length).2.2 m).2.2.2.2.2.1,(fw (pkA g B least k.toNat g.length).2.2 m).2.2.2.2.2.2.1,0)):=by
 unfold qbg
 rw[qt2 hF]
 simp only[qxD]
 have ht:ptl g B least k=((pkA g B least k.toNat g.length).2.1,(pkA g B least k.toNat g.length).2.2,0):=by unfold ptl;rw[if_neg (fun h=>h hp)]
 rw[ht]
 simp only
 rw[if_neg (by decide),qsp (by omega)]
 simp only[qxD]
 by_cases h:(fw (pkA g B least k.toNat g.length).2.2 m).2.2.2.2.2.2.2=0
 ·rw[if_neg (by simp[h]),if_neg (fun hh=>hh h)]
 ·rw[if_pos (by simpa using h),if_pos h]
theorem qk2 {g:List (qAq)}{B least:Int}{k:Nat}:∀ n:Nat,(pkA g B least k n).2.2=(qyr n).map fun i=>((pkA g B least k i).1.length:Int)
 | 0=>rfl
 | n+1=>by
  rw[qzF,qy2,← qk2 (g:=g) (B:=B) (least:=least) (k:=k) n]
  rfl
def dpt (g:List (qAq))(B least:Int)(k:Nat):Nat→Nat→Nat
 | 0,_=>0
 | f+1,i=>1+if (pkN g B least k i).1=0 then 0 else dpt g B least k f (i-(pkN g B least k i).1)
theorem qtW {g:List (qAq)}{B least:Int}{k i:Nat}:(pkN g B least k i).1≤i:=by
 have:=(qgO (g:=g) (B:=B) (least:=least) (k:=k) (i:=i)).1
 omega
theorem qwY {g:List (qAq)}(hg:Gr g){B least:Int}{k:Nat}(hh:hcE B least (k:Int)=0)(hl:(pkA g B least k g.length).1.length≤8192){i:Nat}(hi:i<g.length) :
  ∃ p q:Nat,p≤(pkA g B least k g.length).1.length∧pkO (pkA g B least k g.length).1 B i (pkA g B least k i).1.length=some (((pkN g B least k i).1:Int),p) ∧
   rdl (pkA g B least k g.length).1 p (i:Int) (pkF g i (pkN g B least k i).1) ((pkN g B least k i).1:Int) least k=some (g.getD i [],q):=by
 obtain ⟨k1,k2,k',hk,k3,k4⟩:=qbi hh
 have hkk:k=k':=by omega
 subst hkk
 obtain ⟨hr,_⟩:=qgO (g:=g) (B:=B) (least:=least) (k:=k) (i:=i)
 have hgl:=hg.1
 obtain ⟨R,hR⟩:=qo8 (g:=g) (B:=B) (least:=least) (k:=k) hi
 have hA:(pkA g B least k (i+1)).1.length=(pkA g B least k i).1.length+(pkH B (pkN g B least k i).1).length+(enc (i:Int) (g.getD i []) (pkF g i (pkN g B least k i).1) ((pkN g B least k i).1:Int) least k).length:=by
  have:=(qgO (g:=g) (B:=B) (least:=least) (k:=k) (i:=i)).2
  rw[pkA,this]
  unfold pkW
  simp only[qxF];omega
 have hM:=qiT (g:=g) (B:=B) (least:=least) (k:=k) (show i+1≤g.length from hi)
 refine ⟨(pkA g B least k i).1.length+(pkH B (pkN g B least k i).1).length,(pkA g B least k i).1.length+(pkH B (pkN g B least k i).1).length+(enc (i:Int) (g.getD i []) (pkF g i (pkN g B least k i).1) ((pkN g B least k i).1:Int) least k).length,by omega,?_,?_⟩
 ·unfold pkO pkH
  by_cases hB:B=0
  ·have:(pkN g B least k i).1=0:=by rw[hB] at hr ⊢;simp at hr;exact hr
   rw[if_pos hB,this,if_neg (by omega)]
   simp
  ·rw[if_neg hB,if_pos (by omega)]
   rw[hR]
   unfold pkH
   rw[if_pos (by omega)]
   simp only[qxG]
   exact qfc (by omega) (by omega) _ _
 ·have hE:(enc (i:Int) (g.getD i []) (pkF g i (pkN g B least k i).1) ((pkN g B least k i).1:Int) least k).length≤8192:=by omega
  have hD:=qrA (k:=k) k3 k4 (node:=(i:Int)) (back:=((pkN g B least k i).1:Int)) (least:=least) (x:=g.getD i []) (fr:=pkF g i (pkN g B least k i).1) (by unfold Nd;omega) k2 (qim hg i) (fun _=>qhH hg _ _) ((pkA g B least k i).1++pkH B (pkN g B least k i).1) R hE
  rw[hR]
  simp only[qxG,qxF] at hD ⊢
  exact hD
theorem qwI {l:List Nat}{i:Nat}(h:i<l.length):gf l (i:Int)=(((l[i]:Nat):Int),0):=by
 unfold gf;rw[if_pos (by omega),qxH,qxE h]
abbrev S14:=Int×Int×Int×Int×Int×qAq×Int×Int×Int×Int×qAq×Int×qAq×Int
def shz (e:Int):S14:=(0,0,0,0,0,[],0,0,0,0,[],0,[],e)
def fwp (g:List (qAq))(B least k:Int):F8:=fw (pkA g B least k.toNat g.length).2.2 ((pkA g B least k.toNat g.length).1.length:Int)
def shE (g:List (qAq))(B least k:Int):Int:=if pkE g B least k≠0 then pkE g B least k else (fwp g B least k).2.2.2.2.2.2.2
def shb (g:List (qAq))(B least k:Int):S14 :=
 if shE g B least k≠0 then shz (shE g B least k) else ((g.length:Int),B,least,k,((pkA g B least k.toNat g.length).1.length:Int),pk (pkA g B least k.toNat g.length).1,(fwp g B least k).1,(fwp g B least k).2.1,(fwp g B least k).2.2.1,(fwp g B least k).2.2.2.1,(fwp g B least k).2.2.2.2.1,(fwp g B least k).2.2.2.2.2.1,(fwp g B least k).2.2.2.2.2.2.1,0)
theorem qjo {g:List (qAq)}{B least k:Int}:shE g B least k=0↔pkE g B least k=0∧(fwp g B least k).2.2.2.2.2.2.2=0:=by
 unfold shE
 by_cases h:pkE g B least k=0
 ·rw[if_neg (by simp[h])];simp[h]
 ·rw[if_pos h];simp[h]
theorem qjp {g:List (qAq)}{B least k:Int}(h:shE g B least k=0):shb g B least k=((g.length:Int),B,least,k,((pkA g B least k.toNat g.length).1.length:Int),pk (pkA g B least k.toNat g.length).1,(fwp g B least k).1,(fwp g B least k).2.1,(fwp g B least k).2.2.1,(fwp g B least k).2.2.2.1,(fwp g B least k).2.2.2.2.1,(fwp g B least k).2.2.2.2.2.1,(fwp g B least k).2.2.2.2.2.2.1,0):=by
 unfold shb;rw[if_neg (by simp[h])]
theorem qhM {g:List (qAq)}{B least k:Int}(h:shE g B least k≠0):shb g B least k=shz (shE g B least k):=by
 unfold shb;rw[if_pos h]
def blt (N B least k m:Int)(b:qAq)(f:F8):S14:=if f.2.2.2.2.2.2.2≠0 then shz f.2.2.2.2.2.2.2 else (N,B,least,k,m,b,f.1,f.2.1,f.2.2.1,f.2.2.2.1,f.2.2.2.2.1,f.2.2.2.2.2.1,f.2.2.2.2.2.2.1,0)
theorem qlZ {F:Nat}(hF:2000000≤F){g:List (qAq)}{N B least k m:Int}{b:qAq}(hp:pkE g B least k=0) :
  qbg F g N B least k m b=some (blt N B least k m b (fw (pkA g B least k.toNat g.length).2.2 m)):=qs7 hF hp
theorem qoG {F:Nat}(hF:2000000≤F){g:List (qAq)}{B least k:Int}:qcM F g B least k=some (shb g B least k):=by
 unfold qcM
 rw[qmn hF]
 simp only[qxD]
 by_cases hp:pkE g B least k=0
 ·have e:pwr g B least k=((g.length:Int),B,least,k,((pkA g B least k.toNat g.length).1.length:Int),pk (pkA g B least k.toNat g.length).1,0):=by
   unfold pwr;rw[if_neg (by simp[hp])]
  rw[e]
  simp only
  rw[if_neg (by decide),qlZ hF hp]
  show some (blt _ _ _ _ _ _ (fwp g B least k))=_
  unfold blt
  by_cases h:(fwp g B least k).2.2.2.2.2.2.2=0
  ·rw[if_neg (by simp[h]),qjp (qjo.2 ⟨hp,h⟩)]
  ·have hs:shE g B least k=(fwp g B least k).2.2.2.2.2.2.2:=by unfold shE;rw[if_neg (by simp[hp])]
   rw[if_pos h,qhM (by rw[hs];exact h),hs]
 ·have e:pwr g B least k=(0,0,0,0,0,[],pkE g B least k):=by
   unfold pwr;rw[if_pos hp]
  have hs:shE g B least k=pkE g B least k:=by unfold shE;rw[if_pos hp]
  rw[e]
  simp only
  rw[if_pos (by simpa using hp),qhM (by rw[hs];exact hp),hs]
  rfl
theorem qsj (F:Nat)(g:List (qAq))(N B least k m:Int)(b:qAq):qeV F g N B least k m b=qbg F g N B least k m b:=rfl
theorem qmb {g:List (qAq)}{B least k:Int}:(∃ (ns:List Nat) (kk:Nat),(pkA g B least k.toNat g.length).2.2=lc ns∧((pkA g B least k.toNat g.length).1.length:Int)=kk∧kk≤1048576∧ns.length≤300∧Up kk 0 ns∧Fits kk ns∧fwp g B least k=fo8 kk ns)∨(∃ e:Int,e≠0∧fwp g B least k=fz8 e):=by
 rcases qtq (l:=(pkA g B least k.toNat g.length).2.2) (t:=((pkA g B least k.toNat g.length).1.length:Int)) with ⟨ns,kk,h1,h2,h3,h4,h5,h6,h7⟩ | ⟨e,h1,h2,_⟩
 ·exact Or.inl ⟨ns,kk,h1,h2,h3,h4,h5,h6,h7⟩
 ·exact Or.inr ⟨e,h1,h2⟩
theorem qnw {g:List (qAq)}{B least k:Int}:(fwp g B least k).2.2.2.2.1.length≤1100∧(fwp g B least k).2.2.2.2.2.2.1.length≤1100:=by
 rcases qmb (g:=g) (B:=B) (least:=least) (k:=k) with ⟨ns,kk,h1,h2,h3,h4,h5,h6,h7⟩ | ⟨e,h1,h2⟩
 ·rw[h7]
  have e1:=qfW kk ns
  have e2:=qgJ h5
  unfold Fits at h6
  unfold fo8
  simp only[qfE]
  omega
 ·rw[h2];unfold fz8;simp
theorem qsK {F:Nat}{a1 a2 a3 a4 a6 n t w lw hw:Int}{a5 a7 xl xh:qAq}(h1:a5.length<F)(h2:a7.length<F)(h3:a5.length≤1000000)(h4:a7.length≤1000000) :
  qe6 F a1 a2 a3 a4 a5 a6 a7 n t w lw xl hw xh=some (decide ((a1,a2,a3,a4,a5,a6,a7)=(n,t,w,lw,xl,hw,xh))):=by
 unfold qe6 qdd qde
 by_cases h:a1=n∧a2=t∧a3=w∧a4=lw∧a6=hw
 ·obtain ⟨rfl,rfl,rfl,rfl,rfl⟩:=h
  rw[if_pos (by simp),peqb h1 h3]
  simp only[qxD]
  by_cases h5:a5=xl
  ·subst h5
   rw[if_pos (by simp),peqb h2 h4]
   simp
  ·rw[if_neg (by simpa using h5)]
   simp[h5]
 ·rw[if_neg (by simp;intros;simp_all),if_neg (by decide)]
  congr 1
  symm
  rw[decide_eq_false_iff_not]
  intro hc
  simp only[qzc] at hc
  exact h ⟨hc.1,hc.2.1,hc.2.2.1,hc.2.2.2.1,hc.2.2.2.2.2.1⟩
instance f8Dec:DecidableEq F8:=fun a b=>decidable_of_iff (a.1=b.1∧a.2=b.2) ⟨fun h=>Prod.ext h.1 h.2,fun h=>by rw[h];exact ⟨rfl,rfl⟩⟩
def shc (N B least k m:Int)(b:qAq)(n t w lw:Int)(xl:qAq)(hw:Int)(xh:qAq):Int :=
 if (prd N B least k m b).2≠0 then (prd N B least k m b).2 else if fwp (prd N B least k m b).1 B least k=(n,t,w,lw,xl,hw,xh,0) then 0 else 4
theorem qea {F:Nat}(hF:2000000≤F){N B least k m n t w lw hw:Int}{b xl xh:qAq}(hb:U8s b)(hm:I64 m)(lb:b.length≤9223372036854775807) :
  vh F N B least k m b n t w lw xl hw xh=some (shc N B least k m b n t w lw xl hw xh):=by
 unfold vh shc
 rw[qt1 hF hb hm lb]
 simp only[qxD]
 by_cases h:(prd N B least k m b).2=0
 ·obtain ⟨g,h1,h2,h3,h4,h5⟩:=qnU hb h
  rw[h1]
  simp only
  rw[if_neg (by decide),if_neg (by simp),qsj,qlZ hF h2]
  simp only[qxD]
  subst h4
  have ef:fw (pkA g B least k.toNat g.length).2.2 ((pkA g B least k.toNat g.length).1.length:Int)=fwp g B least k:=rfl
  rw[ef]
  by_cases he:(fwp g B least k).2.2.2.2.2.2.2=0
  ·have e2:∀ m',blt N B least k m' b (fwp g B least k)=(N,B,least,k,m',b,(fwp g B least k).1,(fwp g B least k).2.1,(fwp g B least k).2.2.1,(fwp g B least k).2.2.2.1,(fwp g B least k).2.2.2.2.1,(fwp g B least k).2.2.2.2.2.1,(fwp g B least k).2.2.2.2.2.2.1,0):=by
    intro m';unfold blt;rw[if_neg (by simp[he])]
   rw[e2]
   simp only
   rw[if_neg (by decide)]
   obtain ⟨l1,l2⟩:=qnw (g:=g) (B:=B) (least:=least) (k:=k)
   rw[qsK (by omega) (by omega) (by omega) (by omega)]
   simp only[qxD]
   unfold j9
   by_cases hs:fwp g B least k=(n,t,w,lw,xl,hw,xh,0)
   ·rw[if_pos hs,hs];simp
   ·rw[if_neg hs,if_pos]
    simp only[qzN,decide_eq_false_iff_not]
    intro hc
    apply hs
    simp only[qzc] at hc
    obtain ⟨c1,c2,c3,c4,c5,c6,c7⟩:=hc
    rw[← c1,← c2,← c3,← c4,← c5,← c6,← c7,← he]
  ·have e2:∀ m',blt N B least k m' b (fwp g B least k)=shz (fwp g B least k).2.2.2.2.2.2.2:=by
    intro m';unfold blt;rw[if_pos he]
   rw[e2,if_pos (by simpa[shz] using he)]
   unfold j9
   rw[if_pos (by rfl),if_neg]
   intro hc
   rw[hc] at he
   exact he rfl
 ·rw[if_pos (by simpa using h),if_pos h]
theorem qwZ {N B least k m n t w lw hw:Int}{b xl xh:qAq}(hb:U8s b)(h:shc N B least k m b n t w lw xl hw xh=0):∃ g:List (qAq),prd N B least k m b=(g,0)∧pkE g B least k=0∧N=(g.length:Int)∧m=((pkA g B least k.toNat g.length).1.length:Int)∧b=pk (pkA g B least k.toNat g.length).1∧fwp g B least k=(n,t,w,lw,xl,hw,xh,0):=by
 unfold shc at h
 by_cases h0:(prd N B least k m b).2=0
 ·obtain ⟨g,h1,h2,h3,h4,h5⟩:=qnU hb h0
  rw[if_neg (by simp[h0]),h1] at h
  by_cases hs:fwp g B least k=(n,t,w,lw,xl,hw,xh,0)
  ·exact ⟨g,h1,h2,h3,h4,h5,hs⟩
  ·rw[if_neg hs] at h;simp at h
 ·rw[if_pos h0] at h;exact absurd h h0
theorem qqy {g:List (qAq)}{B least k n t w lw hw:Int}{xl xh:qAq}(h:pkE g B least k=0)(hs:fwp g B least k=(n,t,w,lw,xl,hw,xh,0)) :
  shc (g.length:Int) B least k ((pkA g B least k.toNat g.length).1.length:Int) (pk (pkA g B least k.toNat g.length).1) n t w lw xl hw xh=0:=by
 unfold shc
 rw[qqo h]
 simp only
 rw[if_neg (by decide),if_pos hs]
theorem ql9 {g:List (qAq)}{B least:Int}{k:Nat}(hp:pkE g B least (k:Int)=0){n t w lw hw:Int}{xl xh:qAq}(hf:fwp g B least (k:Int)=(n,t,w,lw,xl,hw,xh,0)) :
  ∀ (f F i rd:Nat),2000000+f≤F→i<f→i<g.length→rd+f≤1000000 →
  kX F (g.length:Int) B least (k:Int) ((pkA g B least k g.length).1.length:Int) (pk (pkA g B least k g.length).1) n t w lw xl hw xh (rd:Int) (i:Int) =
   some (g.getD i [],(g.length:Int),B,least,(k:Int),((pkA g B least k g.length).1.length:Int),n,t,w,lw,hw,((rd+dpt g B least k f i:Nat):Int))
 | 0,_,_,_,_,h,_,_=>by omega
 | f+1,F,i,rd,hF,hi,hg,hr=>by
  obtain ⟨F,rfl⟩:∃ F',F=F'+1:=⟨F-1,by omega⟩
  obtain ⟨p1,p2,p3⟩:=qfD hp
  rw[qxH] at p3
  have hG:=qe9.1 p1
  have hgl:=hG.1
  obtain ⟨k1,k2,k',hk,k3,k4⟩:=qbi p2
  have hkk:k=k':=by omega
  subst hkk
  obtain ⟨p,q,q1,q2,q3⟩:=qwY hG p2 p3 hg
  have hri:=qtW (g:=g) (B:=B) (least:=least) (k:=k) (i:=i)
  have hbit:=qfb (g:=g) (B:=B) (least:=least) (k:=k) g.length
  have hmono:=qiT (g:=g) (B:=B) (least:=least) (k:=k) (show i≤g.length by omega)
  have hget:qfo F n t w lw xl hw xh (i:Int)=some (((pkA g B least k i).1.length:Int),0):=by
   rcases qmb (g:=g) (B:=B) (least:=least) (k:=(k:Int)) with ⟨ns,kk,h1,h2,h3,h4,h5,h6,h7⟩ | ⟨e,h1,h2⟩
   ·rw[hf] at h7
    unfold fo8 at h7
    simp only[qzc] at h7
    obtain ⟨rfl,rfl,rfl,rfl,rfl,rfl,rfl,-⟩:=h7
    rw[qxH,qk2] at h1
    have hlen:ns.length=g.length:=by
     have:=congrArg List.length h1
     rw[qaN] at this
     simpa using this.symm
    rw[qtx (by omega) (qxf h5 h6) (qvr h3 h4 h5 h6),qwI (show i<ns.length by omega)]
    have h8:=qkB (l:=ns) (i:=i) (by omega)
    rw[← h1] at h8
    simp only[qyM,qzr hg,qyg,qxR] at h8
    rw[← h8]
   ·rw[hf] at h2
    unfold fz8 at h2
    simp only[qzc] at h2
    exact absurd h2.2.2.2.2.2.2.2.symm h1
  unfold kX
  simp only
  rw[hget]
  simp only[qxD]
  rw[qrv (by omega) hbit p3 k1 (by omega) (by omega),q2]
  simp only[qxD]
  have hfrom:∀ fr:qAq,fr=pkF g i (pkN g B least k i).1→qak F ((pkA g B least k g.length).1.length:Int) (pk (pkA g B least k g.length).1) (p:Int) (i:Int) fr ((pkN g B least k i).1:Int) least (k:Int)=some (g.getD i [],(q:Int),0):=by
   rintro fr rfl
   rw[qpq (by omega) k3 k4 hbit p3 (by unfold Nd;omega) q1 (fun _=>qhH hG _ _) k2,q3]
  by_cases h0:(pkN g B least k i).1=0
  ·rw[if_neg (by simp[h0])]
   unfold kQ
   simp only
   rw[hfrom [] (by unfold pkF;rw[h0,if_neg (by omega)])]
   simp only[qxD]
   rw[qn (by omega)]
   unfold dpt
   rw[if_pos h0]
  ·rw[if_pos (by simp;omega),qn (by omega)]
   have e1:isub .i64 (i:Int) ((pkN g B least k i).1:Int)=((i-(pkN g B least k i).1:Nat):Int):=by
    rw[qy (by omega) (by omega)];omega
   rw[e1,ql9 hp hf f F (i-(pkN g B least k i).1) (rd+1) (by omega) (by omega) (by omega) (by omega)]
   simp only[qxD]
   unfold kQ
   simp only
   rw[hfrom _ (by unfold pkF;rw[if_pos (by omega)])]
   simp only[qxD]
   have e2:rd+dpt g B least k (f+1) i=rd+1+dpt g B least k f (i-(pkN g B least k i).1):=by
    rw[dpt,if_neg h0];omega
   rw[e2]
structure Shf (g:List (qAq)) (B least k n t w lw:Int) (xl:qAq) (hw:Int) (xh:qAq):Prop where
 pe:pkE g B least k=0
 fe:fwp g B least k=(n,t,w,lw,xl,hw,xh,0)
theorem qrS {g:List (qAq)}{B least k:Int}(h:shE g B least k=0):Shf g B least k (fwp g B least k).1 (fwp g B least k).2.1 (fwp g B least k).2.2.1 (fwp g B least k).2.2.2.1 (fwp g B least k).2.2.2.2.1 (fwp g B least k).2.2.2.2.2.1 (fwp g B least k).2.2.2.2.2.2.1:=by
 obtain ⟨h1,h2⟩:=qjo.1 h
 refine ⟨h1,?_⟩
 rw[← h2]
theorem qrR {g:List (qAq)}{B least k n t w lw hw:Int}{xl xh:qAq}(s:Shf g B least k n t w lw xl hw xh) :
  U8s (pk (pkA g B least k.toNat g.length).1)∧I64 ((pkA g B least k.toNat g.length).1.length:Int)∧(pk (pkA g B least k.toNat g.length).1).length≤9223372036854775807:=by
 obtain ⟨p1,p2,p3⟩:=qfD s.pe
 refine ⟨qfF (qfb _),⟨by omega,by omega⟩,?_⟩
 rw[qfE];omega
def rdn' (g:List (qAq))(B least k:Int)(i:Nat):Nat:=dpt g B least k.toNat 101 i
theorem qnK {F:Nat}(hF:2000200≤F){g:List (qAq)}{B least k n t w lw hw:Int}{xl xh:qAq}(s:Shf g B least k n t w lw xl hw xh){i:Nat}(hi:i<g.length) :
  kP F (g.length:Int) B least k ((pkA g B least k.toNat g.length).1.length:Int) (pk (pkA g B least k.toNat g.length).1) n t w lw xl hw xh (i:Int)=some (g.getD i [],(rdn' g B least k i:Int),0):=by
 obtain ⟨p1,p2,p3⟩:=qfD s.pe
 have hgl:=(qe9.1 p1).1
 obtain ⟨k1,k2,k',rfl,k3,k4⟩:=qbi p2
 obtain ⟨b1,b2,b3⟩:=qrR s
 unfold kP
 rw[qea (by omega) b1 b2 b3,qqy s.pe s.fe]
 simp only[qxD]
 rw[if_pos (by rfl)]
 unfold v6
 rw[if_neg (by simp;omega)]
 unfold vZ
 rw[if_neg (by decide)]
 have:=ql9 s.pe s.fe 101 F i 0 (by omega) (by omega) hi (by omega)
 rw[qxH] at *
 rw[show ((0:Nat):Int)=0 from rfl] at this
 rw[this]
 simp only[qxD]
 unfold rdn'
 rw[qxH,qyj]
theorem qkF {F:Nat}(hF:2000200≤F){g:List (qAq)}{B least k n t w lw hw:Int}{xl xh:qAq}(s:Shf g B least k n t w lw xl hw xh){i:Int}(hi:i<0∨(g.length:Int)≤i) :
  kP F (g.length:Int) B least k ((pkA g B least k.toNat g.length).1.length:Int) (pk (pkA g B least k.toNat g.length).1) n t w lw xl hw xh i=some ([],0,3):=by
 obtain ⟨b1,b2,b3⟩:=qrR s
 unfold kP
 rw[qea (by omega) b1 b2 b3,qqy s.pe s.fe]
 simp only[qxD]
 rw[if_pos (by rfl)]
 unfold v6
 rw[if_pos (by simpa using hi)]
 unfold vZ
 rw[if_pos (by decide)]
theorem qo1 {F:Nat}(hF:2000200≤F){N B least k m n t w lw hw:Int}{b xl xh:qAq}(hb:U8s b)(hm:I64 m)(lb:b.length≤9223372036854775807)(h:shc N B least k m b n t w lw xl hw xh≠0){i:Int} :
  kP F N B least k m b n t w lw xl hw xh i=some ([],0,shc N B least k m b n t w lw xl hw xh):=by
 unfold kP
 rw[qea (by omega) hb hm lb]
 simp only[qxD]
 rw[if_neg (by simpa using h)]
 unfold v6
 rw[if_neg (by decide)]
 unfold vZ
 rw[if_pos (by simpa using h)]
theorem qxy {F:Nat}{l:List Nat}{v:Int}{c:Nat}:za F (lc l) v (c:Int)=some ((c:Int),decide ((l[c]?).map (fun x:Nat=>(x:Int))=some v)):=by
 unfold za
 rw[qaN]
 by_cases h:c<l.length
 ·rw[if_pos (by simpa using h),qt,qkB h,qxE h]
  simp only[qxD,qyg]
  by_cases h2:((l[c]:Nat):Int)=v
  ·rw[if_pos (by simpa using h2),decide_eq_true (by rw[h2])];rfl
  ·rw[if_neg (by simpa using h2),qtF]
   simp only[qxD]
   rw[if_neg (by decide),decide_eq_false (by simpa using h2)];rfl
 ·rw[if_neg (by simpa using h),qx2 (by omega)];rfl
theorem qwD {F t:Nat}{l:List Nat}{v:Int}(hlm:l.length≤300)(hu:Up t 0 l):∀ (k i j:Nat),j-i<k→i≤j→j≤l.length→(∀ (a x:Nat),a<i→l[a]?=some x→(x:Int)<v)→(∀ (a x:Nat),j≤a→l[a]?=some x→v≤(x:Int)) →
  ∃ c,At l v c∧qC F (lc l) v k ((i:Int),(j:Int))=za F (lc l) v (c:Int)
 | 0,_,_,_,_,_,_,_=>by omega
 | k+1,i,j,hk,hij,hj,h1,h2=>by
  have e:qC F (lc l) v (k+1) ((i:Int),(j:Int))=q7 F (lc l) v (qC F (lc l) v k) (i:Int) (j:Int):=rfl
  rw[e]
  unfold q7
  by_cases hlt:i<j
  ·have hmid:(i+j)/2<l.length:=by omega
   rw[if_pos (by simpa using hlt),qxo (by omega)]
   simp only[lett]
   rw[qt,qkB hmid]
   simp only[qxD]
   rw[qtn]
   simp only[qxD]
   have hg:l[(i+j)/2]?=some l[(i+j)/2]:=qxE hmid
   by_cases hv:((l[(i+j)/2]:Nat):Int)<v
   ·rw[if_pos (by simpa using hv),qn (by omega)]
    refine qwD hlm hu k _ _ (by omega) (by omega) hj (fun a x ha hx=>?_) h2
    have:=qj5 hu (show a≤(i+j)/2 by omega) hx hg
    omega
   ·rw[if_neg (by simpa using hv)]
    refine qwD hlm hu k _ _ (by omega) (by omega) (by omega) h1 (fun a x ha hx=>?_)
    have:=qj5 hu ha hg hx
    omega
  ·obtain rfl:i=j:=by omega
   rw[if_neg (by simp)]
   exact ⟨i,⟨hj,h1,h2⟩,rfl⟩
theorem qwE {F t:Nat}(hF:20000≤F){l:List Nat}{v:Int}(hlm:l.length≤300)(hu:Up t 0 l):∃ c:Int,qI F (lc l) v=some (c,decide (v∈lc l)):=by
 obtain ⟨c,⟨g1,g2,g3⟩,h5⟩:=qwD (F:=F) (v:=v) hlm hu F 0 l.length (by omega) (qx7 _) (qxY _) (fun a x ha=>by omega) (fun a x ha hx=>by rw[qx2 (by omega)] at hx;simp at hx)
 refine ⟨(c:Int),?_⟩
 unfold qI
 rw[qaN]
 rw[show ((0:Nat):Int)=0 from rfl] at h5
 rw[h5,qxy]
 congr 2
 rw[decide_eq_decide]
 unfold lc
 constructor
 ·intro h
  rw[Option.map_eq_some_iff] at h
  obtain ⟨x,h1,h2⟩:=h
  rw[← h2]
  exact List.mem_map.2 ⟨x,qxM h1,rfl⟩
 ·intro h
  obtain ⟨x,h1,h2⟩:=List.mem_map.1 h
  obtain ⟨i,hi,h3⟩:=List.mem_iff_getElem.1 h1
  have h4:l[i]?=some x:=by rw[qxE hi,h3]
  have h6:c≤i:=by
   by_cases hc:c≤i
   ·exact hc
   ·have:=g2 i x (by omega) h4;omega
  have hcl:c<l.length:=by omega
  have h7:l[c]?=some l[c]:=qxE hcl
  have h8:=g3 c _ (qxY _) h7
  have h9:=qj5 hu h6 h7 h4
  rw[h7,qyg]
  congr 1
  omega
theorem qwA {t:Nat}:∀ {l:qAq} {a:Int},0≤a→(∀ x∈l,a≤x∧x≤t)→l.Pairwise (·<·)→∃ ns,l=lc ns∧Up t a.toNat ns
 | [],a,_,_,_=>⟨[],rfl,trivial⟩
 | x::l,a,ha,h,hp=>by
  have h1:=h x (by simp)
  rw[qyJ] at hp
  obtain ⟨ns,e,hu⟩:=qwA (t:=t) (l:=l) (a:=x) (by omega) (fun y hy=>⟨Int.le_of_lt (hp.1 y hy),(h y (by simp[hy])).2⟩) hp.2
  refine ⟨x.toNat::ns,?_,by omega,by omega,hu⟩
  rw[e]
  show _=((x.toNat:Nat):Int)::lc ns
  rw[qzE (by omega)]
theorem qwF {F:Nat}(hF:20000≤F){g:List (qAq)}(hg:Gr g){i:Nat}(hi:i<g.length){v:Int}:∃ c:Int,qI F (g.getD i []) v=some (c,decide (v∈g.getD i [])):=by
 have hm:g.getD i []∈g:=by
  rw[qyb,qxE hi];exact qx8 hi
 have h1:=hg.2.1 _ hm
 have h2:=qnA hg hm
 have h3:=hg.1
 obtain ⟨ns,e,hu⟩:=qwA (t:=100) (l:=g.getD i []) (a:=0) (by omega) (fun x hx=>by have:=h1.2 x hx;omega) h1.1
 have hl:ns.length≤300:=by rw[← qaN,← e];omega
 rw[e]
 exact qwE hF hl hu
theorem qkC {F:Nat}(hF:2000200≤F){g:List (qAq)}{B least k n t w lw hw:Int}{xl xh:qAq}(s:Shf g B least k n t w lw xl hw xh){i:Nat}(hi:i<g.length){v:Int} :
  kF F (g.length:Int) B least k ((pkA g B least k.toNat g.length).1.length:Int) (pk (pkA g B least k.toNat g.length).1) n t w lw xl hw xh (i:Int) v=some (if v<0∨(g.length:Int)≤v then (false,3) else (decide (v∈g.getD i []),0)):=by
 unfold kF
 rw[qnK hF s hi]
 simp only[qxD]
 rw[if_pos (by rfl)]
 unfold vw vv
 by_cases hv:v<0∨(g.length:Int)≤v
 ·rw[if_pos (by simpa using hv),if_pos (by decide),if_pos hv]
 ·rw[if_neg (by simpa using hv),if_neg (by simp),if_neg hv]
  obtain ⟨c,hc⟩:=qwF (F:=F) (by omega) (qe9.1 (qfD s.pe).1) hi (v:=v)
  simp only
  rw[hc]
  rfl
theorem qsu {F:Nat}(hF:2000200≤F){g:List (qAq)}{B least k n t w lw hw:Int}{xl xh:qAq}(s:Shf g B least k n t w lw xl hw xh){i v:Int}(hi:i<0∨(g.length:Int)≤i) :
  kF F (g.length:Int) B least k ((pkA g B least k.toNat g.length).1.length:Int) (pk (pkA g B least k.toNat g.length).1) n t w lw xl hw xh i v=some (false,3):=by
 unfold kF
 rw[qkF hF s hi]
 simp only[qxD]
 rw[if_neg (by simp)]
 unfold vw vv
 rw[if_neg (by decide),if_pos (by simp)]
theorem qst {F:Nat}(hF:2000200≤F){N B least k m n t w lw hw:Int}{b xl xh:qAq}(hb:U8s b)(hm:I64 m)(lb:b.length≤9223372036854775807)(h:shc N B least k m b n t w lw xl hw xh≠0){i v:Int} :
  kF F N B least k m b n t w lw xl hw xh i v=some (false,shc N B least k m b n t w lw xl hw xh):=by
 unfold kF
 rw[qo1 hF hb hm lb h]
 simp only[qxD]
 rw[if_neg (by simpa using h)]
 unfold vw vv
 rw[if_neg (by decide),if_pos (by simpa using h)]
theorem qn0 {F:Nat}{b l k:Int}:qca F b l k=some (hcE b l k):=by
 unfold qca qaQ qcV qaQ qcU zu hcE
 simp only[qxD]
 by_cases h1:0≤b∧b≤7
 ·have e1:(!(decide (0≤b) && decide (b≤7)))=false:=by simp;omega
  rw[e1,if_neg (by simp)]
  by_cases h3:1≤k∧k≤16
  ·have e3:(!(decide (1≤k) && decide (k≤16)))=false:=by simp;omega
   by_cases h2:l=0
   ·rw[if_neg (by simp[h2]),if_neg (by simp),e3,if_neg (by simp),if_neg (show ¬ hcB b l k from by unfold hcB;omega)]
   ·rw[if_pos (by simpa using h2)]
    by_cases h4:2≤l∧l≤300
    ·have e4:(!(decide (2≤l) && decide (l≤300)))=false:=by simp;omega
     rw[e4,if_neg (by simp),e3,if_neg (by simp),if_neg (show ¬ hcB b l k from by unfold hcB;omega)]
    ·have e4:(!(decide (2≤l) && decide (l≤300)))=true:=by simp;omega
     rw[e4,if_pos rfl,if_pos (by trivial),if_pos (show hcB b l k from by unfold hcB;omega)]
  ·have e3:(!(decide (1≤k) && decide (k≤16)))=true:=by simp;omega
   by_cases h2:l=0
   ·rw[if_neg (by simp[h2]),if_neg (by simp),e3,if_pos (by trivial),if_pos (show hcB b l k from by unfold hcB;omega)]
   ·rw[if_pos (by simpa using h2)]
    by_cases h4:2≤l∧l≤300
    ·have e4:(!(decide (2≤l) && decide (l≤300)))=false:=by simp;omega
     rw[e4,if_neg (by simp),e3,if_pos (by trivial),if_pos (show hcB b l k from by unfold hcB;omega)]
    ·have e4:(!(decide (2≤l) && decide (l≤300)))=true:=by simp;omega
     rw[e4,if_pos rfl,if_pos (by trivial),if_pos (show hcB b l k from by unfold hcB;omega)]
 ·have e1:(!(decide (0≤b) && decide (b≤7)))=true:=by simp;omega
  rw[e1,if_pos rfl,if_pos (by trivial),if_pos (by trivial),if_pos (show hcB b l k from by unfold hcB;omega)]
theorem qup {F:Nat}(hF:20000≤F){node back least k:Int}{fr:qAq}:qfM F node fr back least k=some (scE node fr back):=by
 unfold qfM zu scE
 simp only[qxD]
 by_cases h1:0≤node∧node≤1048576
 ·rw[if_neg (by simp;omega),if_pos (show Nd node from h1)]
  by_cases h2:0<back
  ·rw[if_pos (by simpa using h2),if_pos h2,qhJ hF];rfl
  ·rw[if_neg (by simpa using h2),if_neg h2]
 ·rw[if_pos (by simp;omega),if_neg (show ¬ Nd node from h1)]
theorem rgl {F:Nat}(hF:20000≤F){n:Int}(h0:0≤n)(hn:n≤1099511627776):kd F (iconv .u64 n)=some (ga n.toNat):=by
 obtain ⟨m,rfl⟩:=qxK h0
 rw[zz (by omega),qgG hF (by omega),qxH]
theorem qpf {F k:Nat}(hF:20000≤F)(h1:1≤k)(h2:k≤16){S rest:qAq}{node q:Int}(hn:Nd node)(hm:rest.length≤300)(hs:Ris q rest)(hS:S.length≤1000000) :
  jY F node (k:Int) S rest=some (S++zes k (gp false node rest)):=by
 unfold jY
 rw[qsq hF hm hn hs]
 simp only[qxD]
 have hl:=qjf false node rest
 have h40:L40 (gp false node rest):=fun x hx=>by
  have:=qmd hn hs (fun h=>by simp at h) x hx
  omega
 have hz:=qjK (F:=F) hF h1 h2 h40 (by omega) F 0 [] (by omega) (qx7 _) (by simp;omega)
 have hz':ym F (gp false node rest) (k:Int) F ([],0)=_:=hz
 unfold qf4
 rw[hz',qxT,qxV]
 simp only[qxD]
 have:=qof h2 h40
 rw[qT (by omega)]
 rfl
theorem qrO {F k:Nat}(hF:20000≤F)(hk1:1≤k)(hk2:k≤16){node q0:Int}{R:List (Int×Int)}{rest:qAq}{least:Int}(hn:Nd node)(hm:R.length≤300)(hR:∀ r∈R,RunOk r∧least≤r.2)(hle:0≤least)(hrm:rest.length≤300)(hrs:Ris q0 rest) :
  ∀ (j i:Nat) (S:qAq),R.length<j+i→i≤R.length→S.length+200*(R.length-i)≤900000→(∃ q,Sep q (R.drop i))→(∀ h:0<i,∃ q,Sep q (R.drop (i-1))) →
  kf F node least (k:Int) (R,rest) j (S,(i:Int))=some (S++(encRs least (decide (0<i)) (if h:0<i∧i≤R.length then (R[i-1]'(by omega)).1+(R[i-1]'(by omega)).2-1 else node) (R.drop i)++zes k (gp false node rest)))
 | 0,_,_,_,_,_,_,_=>by omega
 | j+1,i,S,h,hi,hS,hs,hs1=>by
  show qco F node least (k:Int) (R,rest) (kf F node least (k:Int) (R,rest) j) S (i:Int)=_
  unfold qco
  by_cases hlt:i<R.length
  ·obtain ⟨hro,hrl⟩:=hR R[i] (qx8 hlt)
   unfold RunOk at hro
   unfold Nd at hn
   rw[if_pos (by simp;omega),qxI hlt]
   have hj:∀ (g:Nat),g≤1099511627776→jZ F (kf F node least (k:Int) (R,rest) j) least (R,rest) (i:Int) (S++ga g)=some (S++(ga g++(ga (R[i].2-least).toNat++encRs least true (R[i].1+R[i].2-1) (R.drop (i+1))))++zes k (gp false node rest)):=fun g hg=>by
    unfold jZ
    have hg1:=qdX hg
    have hg2:=qdX (n:=(R[i].2-least).toNat) (by omega)
    rw[qt,qxE hlt]
    simp only[qxD]
    rw[qy (by omega) (by omega),rgl hF (by omega) (by omega)]
    simp only[qxD]
    rw[qT (by rw[qxF];omega)]
    simp only[qxD]
    rw[qn (by omega)]
    obtain ⟨q,hsp⟩:=hs
    rw[qxI hlt] at hsp
    rw[qrO hF hk1 hk2 (by unfold Nd;omega) hm hR hle hrm hrs j (i+1) _ (by omega) (by omega) (by simp only[qxF];omega) ⟨_,hsp.2.2⟩ (fun _=>by
     rw[qx6,qxI hlt];exact ⟨q,hsp⟩)]
    have hc:0<i+1∧i+1≤R.length:=⟨by omega,by omega⟩
    rw[dif_pos hc]
    simp only[qx6,Nat.zero_lt_succ,decide_true]
    simp only[qxG]
   by_cases h0:i=0
   ·subst h0
    have hf:=qfz (x:=R[0].1-node) (by omega)
    rw[if_pos (by simp)]
    have e0:idx R 0=some R[0]:=by
     show idx R ((0:Nat):Int)=_
     rw[qt,qxE hlt]
    rw[e0]
    simp only[qxD]
    rw[qy (by omega) (by omega),qma F (by omega) (by omega)]
    simp only[qxD]
    obtain ⟨g,hg⟩:=qxK hf.1
    rw[hg,qgG hF (by omega)]
    simp only[qxD]
    have hg1:=qdX (n:=g) (by omega)
    rw[qT (by omega)]
    simp only[qxD]
    rw[hj g (by omega)]
    simp only[encRs,qAi,decide_false,qxP,if_false,false_and,dite_false]
    rw[hg,qxH]
    simp only[qxG]
   ·have hi0:0<i:=by omega
    obtain ⟨q1,hq1⟩:=hs1 hi0
    have hlt1:i-1<R.length:=by omega
    rw[qxI hlt1,show i-1+1=i from by omega,qxI hlt] at hq1
    obtain ⟨a1,a2,a3⟩:=hq1
    obtain ⟨b1,b2,b3⟩:=a3
    obtain ⟨hro1,hrl1⟩:=hR R[i-1] (qx8 hlt1)
    unfold RunOk at hro1
    rw[if_neg (by simp;omega),qt,qxE hlt,yO (by omega) (by omega),qt,qxE hlt1]
    simp only[qxD]
    rw[qw (by omega) (by omega),qy (a:=R[i-1].1+R[i-1].2) (by omega) (by omega),qy (a:=R[i].1) (by omega) (by omega),qy (by omega) (by omega),rgl hF (by omega) (by omega)]
    simp only[qxD]
    have hg1:=qdX (n:=(R[i].1-(R[i-1].1+R[i-1].2-1)-2).toNat) (by omega)
    rw[qT (by omega)]
    simp only[qxD]
    rw[hj _ (by omega)]
    rw[dif_pos ⟨hi0,by omega⟩]
    simp only[encRs,hi0,decide_true,if_true]
    simp only[qxG]
  ·rw[if_neg (by simp;omega),qxN (by omega)]
   rw[qpf hF hk1 hk2 hn hrm hrs (by omega)]
   simp[encRs]
theorem qph {F k:Nat}(hF:2000000≤F)(h1:1≤k)(h2:k≤16){S rest:qAq}{node least:Int}(hn:Nd node)(hg:gkc rest=0)(hS:S.length≤500000):yS F node least (k:Int) S rest=some (S++encL node rest least k):=by
 obtain ⟨hm,hs⟩:=zL.1 hg
 unfold yS encL encO encS
 by_cases h0:rest=[]
 ·subst h0
  rw[if_pos (by simp),if_pos rfl,qyv]
 ·have hlen:rest.length≠0:=by simpa using h0
  rw[if_neg (by simp;exact h0),if_neg h0]
  by_cases hl:0<least
  ·rw[if_pos (by simpa using hl),if_pos hl,if_pos hl,if_pos hl,qsF hF hm hs]
   simp only[qxD]
   obtain ⟨s1,s2⟩:=qn3 (least:=least) hm hs
   obtain ⟨r1,r2⟩:=qmu hm hs
   rw[rgl (by omega) (by omega) (by omega),qxH]
   simp only[qxD]
   have hg1:=qdX (n:=(spO least (rs rest)).length) (by omega)
   rw[qT (by omega)]
   simp only[qxD]
   have hsep:Sep (-1) (spO least (rs rest)):=qdo _ r1
   have:=qrO (F:=F) (by omega) h1 h2 (R:=spO least (rs rest)) (rest:=flat (spS least (rs rest))) (least:=least) (q0:=-1) hn (by omega) (fun r hr=>⟨r2 r (qyK.1 hr).1,by simpa using (qyK.1 hr).2⟩) (by omega) s2 (qj3 hs _) F 0 (S++ga (spO least (rs rest)).length) (by omega) (qx7 _) (by rw[qxF];omega) ⟨_,hsep⟩ (fun h=>absurd h (by omega))
   have this':kf F node least (k:Int) (spO least (rs rest),flat (spS least (rs rest))) F (S++ga (spO least (rs rest)).length,0)=_:=this
   rw[this',qxT]
   simp only[qAi,decide_false,false_and,dite_false,encR,qxG]
  ·rw[if_neg (by simpa using hl),if_neg hl,if_neg hl,qxV]
   exact qpf (by omega) h1 h2 hn hm hs (by omega)
theorem qt9 {F k:Nat}(hF:2000000≤F){bs rest:qAq}{node least:Int}(hm:bs.length≤301)(hb:∀ n∈bs,n≤1000000):∀ (j i:Nat) (S:qAq),bs.length<j+i→i≤bs.length→S.length+100*(bs.length-i)≤400000→okB (decide (i=0)) (bs.drop i)=true →
  kg F node least (k:Int) (bs,rest) j (S,(i:Int))=yS F node least (k:Int) (S++encBs (decide (0<i)) (bs.drop i)) rest
 | 0,_,_,_,_,_,_=>by omega
 | j+1,i,S,h,hi,hS,hok=>by
  show qcp F node least (k:Int) (bs,rest) (kg F node least (k:Int) (bs,rest) j) S (i:Int)=_
  unfold qcp
  by_cases hlt:i<bs.length
  ·have hbi:=hb _ (qx8 hlt)
   rw[if_pos (by simp;omega),qt,qxE hlt,qxI hlt]
   simp only[qxD]
   rw[qxI hlt,qgn] at hok
   simp only[qyi] at hok
   have h0:0≤bs[i]:=by simpa using hok.1.1
   have h1:0<i→1≤bs[i]:=fun hi0=>by
    have:=hok.1.2
    have e:decide (i=0)=false:=by simp;omega
    rw[e] at this
    simp at this
    omega
   have hstep:∀ x:Int,0≤x→x≤1000000→j1 F (kg F node least (k:Int) (bs,rest) j) S (i:Int) x=yS F node least (k:Int) (S++(ga x.toNat++encBs true (bs.drop (i+1)))) rest:=fun x hx0 hx1=>by
    unfold j1
    rw[rgl (by omega) hx0 (by omega)]
    simp only[qxD]
    have hg:=qdX (n:=x.toNat) (by omega)
    rw[qT (by omega)]
    simp only[qxD]
    rw[qn (by omega),qt9 hF hm hb j (i+1) _ (by omega) (by omega) (by rw[qxF];omega) (by
     have:=hok.2
     have e:decide (i+1=0)=false:=by simp
     rw[e];exact this)]
    simp only[Nat.zero_lt_succ,decide_true,qxG]
   by_cases hi0:0<i
   ·rw[if_pos (by simp;omega),qy (by omega) (by omega),hstep _ (by have:=h1 hi0;omega) (by omega)]
    simp only[encBs,hi0,decide_true,if_true]
   ·rw[if_neg (by simp;omega),hstep _ h0 hbi]
    simp only[encBs,hi0,decide_false,qxP,if_false,Int.sub_zero]
  ·rw[if_neg (by simp;omega),qxN (by omega)]
   simp[encBs]
theorem qjm {F k:Nat}(hF:2000000≤F)(h1:1≤k)(h2:k≤16){x fr:qAq}{node back least:Int}(hn:Nd node)(hg:gkc x=0)(hfr:0<back→gkc fr=0) :
  qdE F node x fr back least (k:Int)=some (enc node x fr back least k):=by
 obtain ⟨hm,hs⟩:=zL.1 hg
 unfold qdE enc rstO
 rw[rgl (by omega) (by omega) (by omega),qxH]
 simp only[qxD]
 have hg1:=qdX (n:=x.length) (by omega)
 by_cases h0:x=[]
 ·subst h0
  rw[if_pos (by simp),if_pos rfl,qyv]
 ·rw[if_neg (by simpa using h0),if_neg h0]
  by_cases hb:0<back
  ·have hfg:=hfr hb
   have hfl:=(zL.1 hfg).1
   rw[if_pos (by simpa using hb),if_pos hb,if_pos hb,qqp (by omega) hfl hm]
   simp only[qxD]
   have htl:=qhS fr x
   have hok:okB true (tbs fr x)=true:=qhh _ _ _ _ (by omega) (Or.inl rfl)
   have hsum:bsum (tbs fr x)≤0+(fr.map (hasB x)).length:=qfU _ _ _ (by omega)
   rw[qyB] at hsum
   have hbd:∀ n∈tbs fr x,n≤1000000:=fun n hnm=>by
    have:=qhD hok n hnm
    omega
   rw[rgl (by omega) (by omega) (by omega),qxH]
   simp only[qxD]
   have hg2:=qdX (n:=(tbs fr x).length) (by omega)
   rw[qT (by omega)]
   simp only[qxD]
   have hbl:=qt9 (F:=F) (k:=k) (rest:=rst fr x) (node:=node) (least:=least) hF (bs:=tbs fr x) (by omega) hbd F 0 (ga x.length++ga (tbs fr x).length) (by omega) (qx7 _) (by rw[qxF];omega) (by simpa using hok)
   have hbl':kg F node least (k:Int) (tbs fr x,rst fr x) F (ga x.length++ga (tbs fr x).length,0)=_:=hbl
   have hlen:(encBs false (tbs fr x)).length≤81*(tbs fr x).length:=by
    have key:∀ (bs:qAq) (b:Bool),(∀ n∈bs,n≤1000000)→(encBs b bs).length≤81*bs.length:=by
     intro bs
     induction bs with
     | nil=>intro b _;simp[encBs]
     | cons n bs ih =>
      intro b hn
      have h3:=ih true (fun y hy=>hn y (by simp[hy]))
      have h4:=hn n (by simp)
      have h5:=qdX (n:=(n-if b then 1 else 0).toNat) (by split <;> omega)
      simp only[encBs,qxF,qxX]
      omega
    exact key _ _ hbd
   rw[hbl',qxT,show decide (0<0)=false from rfl,qph hF h1 h2 hn (qiX hg) (by simp only[qxF];omega)]
   simp only[encB,qxG]
  ·rw[if_neg (by simpa using hb),if_neg hb,if_neg hb,qxV]
   exact qph hF h1 h2 hn hg (by omega)
theorem qn8 {x:Int}(h0:0≤x)(h1:x≤1000000):iadd .u64 x 1=x+1:=by
 obtain ⟨n,rfl⟩:=qxK h0
 rw[qfd (by omega)];omega
theorem qmy {F:Nat}{rec158:(qAq×Int)→Option (qAq)}{l out:qAq}{i:Nat}{x:Int}(hx:l[i]?=some x)(ho:out.length≤1000000):∀ (j a:Nat),a<j→a≤out.length→(∀ z∈out.drop a,x≤z)→out.Pairwise (·≤·) →
  ∃ p:Nat,p≤out.length∧yR F rec158 l out (i:Int) j (a:Int)=qc0 F rec158 l out (i:Int) (p:Int)∧(∀ z∈out.drop p,x≤z)∧(∀ z∈out.take p,z≤x)
 | 0,_,h,_,_,_=>by omega
 | j+1,a,h,ha,hd,hp=>by
  show ∃ p:Nat,p≤out.length∧qcZ F rec158 l out (i:Int) (yR F rec158 l out (i:Int) j) (a:Int)=_∧_
  unfold qcZ
  by_cases h0:0<a
  ·have hlt:a-1<out.length:=by omega
   rw[if_pos (by simpa using h0),yO (by omega) (by omega),qt,qxE hlt,qt,hx]
   simp only[qxD]
   unfold qc1
   by_cases h1:x<out[a-1]
   ·rw[if_pos (by simpa using h1),yO (by omega) (by omega)]
    refine qmy hx ho j (a-1) (by omega) (by omega) (fun z hz=>?_) hp
    rw[qxI hlt,show a-1+1=a from by omega] at hz
    rcases qxO.1 hz with rfl | hz
    ·omega
    ·exact hd z hz
   ·rw[if_neg (by simpa using h1)]
    refine ⟨a,ha,rfl,hd,fun z hz=>?_⟩
    obtain ⟨q,hq,rfl⟩:=List.mem_iff_getElem.1 hz
    rw[qx1] at hq
    rw[List.getElem_take]
    by_cases hqa:q=a-1
    ·subst hqa;omega
    ·have:=(List.pairwise_iff_getElem.1 hp) q (a-1) (by omega) hlt (by omega)
     omega
  ·rw[if_neg (by simpa using h0)]
   refine ⟨a,ha,rfl,hd,fun z hz=>?_⟩
   have:a=0:=by omega
   subst this
   simp at hz
theorem qwT {out:qAq}{x:Int}{p:Nat}(hp:out.Pairwise (·≤·))(h1:∀ z∈out.drop p,x≤z)(h2:∀ z∈out.take p,z≤x):(out.take p++[x]++out.drop p).Pairwise (·≤·):=by
 rw[qxG,qzX]
 refine ⟨hp.sublist (List.take_sublist _ _),?_,?_⟩
 ·rw[qzz,qyJ]
  exact ⟨h1,hp.sublist (List.drop_sublist _ _)⟩
 ·intro a ha b hb
  rcases qxL.1 hb with hb | hb
  ·simp at hb;subst hb;exact h2 a ha
  ·have hab:=hp
   rw[← qyu p out,qzX] at hab
   exact hab.2.2 a ha b hb
theorem qps {F:Nat}{l:qAq}(hF:l.length<F)(hm:l.length≤100000):∀ (k i:Nat) (out:qAq),l.length<k+i→i≤l.length→out.Perm (l.take i)→out.Pairwise (·≤·)→qZ F l k (out,(i:Int))=some (srt l)
 | 0,_,_,_,_,_,_=>by omega
 | k+1,i,out,h,hi,hpm,hp=>by
  show qcY F l (qZ F l k) out (i:Int)=_
  unfold qcY
  have hlen:=hpm.length_eq
  rw[qx1] at hlen
  by_cases hlt:i<l.length
  ·rw[if_pos (by simp;omega)]
   obtain ⟨p,hpl,hM,h1,h2⟩:=qmy (F:=F) (rec158:=qZ F l k) (qxE hlt) (by omega) F out.length (by omega) (qxY _) (by simp) hp
   rw[hM]
   unfold qc0
   have e0:sub out 0 (p:Int)=some (out.take p):=by
    have:=qi3 (l:=out) (i:=0) (j:=p) (by omega) hpl
    simpa using this
   rw[e0,qt,qxE hlt,qi3 hpl (qxY _)]
   simp only[qxD]
   rw[qT (by simp;omega)]
   simp only[qxD]
   rw[qT (by simp;omega)]
   simp only[qxD]
   rw[qT (by simp;omega)]
   simp only[qxD]
   unfold qaT
   rw[qn (by omega),qxV,qzq]
   refine qps hF hm k (i+1) _ (by omega) (by omega) ?_ (qwT hp h1 h2)
   rw[qzb,qxE hlt]
   have e1:(out.take p++[l[i]]++out.drop p).Perm (l[i]::out):=by
    have:=List.perm_middle (a:=l[i]) (l₁:=out.take p) (l₂:=out.drop p)
    rw[qyu] at this
    simpa using this
   refine e1.trans ((List.Perm.cons _ hpm).trans ?_)
   have:=List.perm_append_comm (l₁:=[l[i]]) (l₂:=l.take i)
   simpa using this
  ·rw[if_neg (by simp;omega)]
   unfold qfl
   rw[List.take_of_length_le (by omega)] at hpm
   rw[qhs hpm.symm hp]
theorem qsL {F:Nat}{l:qAq}(hF:l.length<F)(hm:l.length≤100000):qgy F l=some (srt l):=by
 unfold qgy
 exact qps hF hm F 0 [] (by omega) (qx7 _) (by simp) (by simp)
def gGap (l:qAq)(k:Nat)(node many:Int)(out:qAq)(p:Nat):qAq×Bool :=
 match gfr l k (many-out.length).toNat false node p with
 | .inl _=>([],false)
 | .inr g=>(srt (out++g.1),true)
def gFst (b:Bool)(e node g:Int):Int:=if b then e+g+2 else match st false node g with | none=>-1 | some n=>n
def gRn (l:qAq)(k:Nat)(node least many:Int):Nat→Bool→Int→qAq→Nat→qAq×Bool
 | 0,_,_,out,p=>gGap l k node many out p
 | j+1,b,e,out,p=>match rgam l p 4194304 with
  | none=>([],false)
  | some g=>match rgam l g.2 1000 with
   | none=>([],false)
   | some x=>if gFst b e node g.1<0∨1048576<gFst b e node g.1 then ([],false) else
    if many<((out++rng (gFst b e node g.1) (x.1+least).toNat).length:Int) then ([],false)
    else gRn l k node least many j true (gFst b e node g.1+x.1+least-1) (out++rng (gFst b e node g.1) (x.1+least).toNat) x.2
def gG2 (l:qAq)(k:Nat)(node least many:Int)(out:qAq)(p:Nat):qAq×Bool :=
 if (out.length:Int)=many then (out,true) else if 0<least then match rgam l p 300 with
  | none=>([],false)
  | some n=>gRn l k node least many n.1.toNat false node out n.2
 else gGap l k node many out p
def gG (l:qAq)(p:Nat)(node:Int)(fr:qAq)(back least:Int)(k:Nat):qAq×Bool :=
 match rgam l p 300 with
 | none=>([],false)
 | some m=>if m.1=0 then ([],true) else if 0<back then match rgam l m.2 (fr.length+1) with
   | none=>([],false)
   | some n=>match rbl l 1000 n.1.toNat false n.2 with
    | none=>([],false)
    | some b=>if (cpy fr b.1).2=0∧((cpy fr b.1).1.length:Int)≤m.1 then gG2 l k node least m.1 (cpy fr b.1).1 b.2 else ([],false)
  else gG2 l k node least m.1 [] m.2
theorem qiL {F:Nat}(hF:20000≤F){l:qAq}(hl:Bit l)(hm:l.length≤8192){p:Nat}(hp:p≤l.length){most:Int}{K:Int×Int×Int→Option (qAq×Bool)}{G:Int×Nat→qAq×Bool}
  (hN:∀ g:Int×Int×Int,(g.2.2≠0∨most<g.1)→K g=some ([],false)) (hS:∀ (x:Int×Nat),rgam l p most=some x→0≤x.1→x.1≤most→x.1≤1099511627776→x.2≤l.length→K (x.1,(x.2:Int),0)=some (G x)) :
  (kq F l (p:Int)).bind K=some (match rgam l p most with | none=>([],false) | some x=>G x):=by
 rw[qgH hF hl hm hp]
 simp only[qxD]
 cases hr:rgam l p most with
 | none =>
  refine hN _ ?_
  unfold rgam at hr
  by_cases h1:(fg l p).2.2=0
  ·right
   by_cases h2:(fg l p).1≤most
   ·rw[if_pos ⟨h1,h2⟩] at hr;simp at hr
   ·omega
  ·left;exact h1
 | some x =>
  have hok:=vO hr
  have:=hS x hr hok.1 hok.2.1 hok.2.2.1 hok.2.2.2
  rw[← this]
  congr 1
  unfold rgam at hr
  split at hr
  ·rename_i hc
   simp only[qxR] at hr
   rw[← hr]
   have h3:0≤(fg l p).2.1:=by
    rcases ql7 (l:=l) (a:=p) with h1 | ⟨n,q,h1,h2,h3⟩
    ·exact absurd hc.1 h1
    ·rw[h1];simp
   simp only
   rw[qzE h3,← hc.1]
  ·simp at hr
theorem qq7 {F k:Nat}(hF:2000000≤F)(h1:1≤k)(h2:k≤16){l:qAq}(hl:Bit l)(hm:l.length≤8192){node many:Int}(hn:Nd node){out:qAq}(ho:(out.length:Int)≤many)(hmm:many≤300){p:Nat}(hp:p≤l.length){x:Int×Int×Int}(hx:x.1=many) :
  jh F l node (k:Int) x (p:Int) out=some (gGap l k node many out p):=by
 unfold jh qgv gGap
 rw[hx]
 have e1:iconv .i64 many=many:=qX (by omega) (by omega)
 rw[e1,qy (by omega) (by omega)]
 obtain ⟨n,hnn⟩:=qxK (a:=many-(out.length:Int)) (by omega)
 rw[hnn]
 have:=qkt (F:=F) (k:=k) (many:=n) (l:=l) (by omega) hl hm h1 h2 (by omega) F p node [] (by simp;omega) (by simp) hp hn
 rw[this]
 simp only[qxD,qyA,qy4,qAi,decide_false,qxH]
 cases hg:gfr l k n false node p with
 | inl e =>
  rw[show gfI ([]:qAq) (.inl e)=([],0,e) from rfl,if_pos (by simpa using qp5 hg)]
 | inr r =>
  have hrl:=qny hg
  rw[show gfI ([]:qAq) (.inr r)=(r.1,(r.2:Int),0) from rfl,if_neg (by simp),qT (by simp only;omega)]
  simp only[qxD]
  rw[qsL (by rw[qxF];omega) (by rw[qxF];omega)]
  rfl
theorem qww {F:Nat}{rec64:(Int×qAq×Int×Int)→Option (qAq×Bool)}{least i f:Int}{x x2:Int×Int×Int}{out:qAq}(hx0:0≤x2.1)(hx:x2.1≤1000)(hle:0≤least)(hle2:least≤300)(hf:0≤f)(hf2:f≤1048576)(ho:out.length≤100000):∀ (j t:Nat),(x2.1+least).toNat<j+t→t≤(x2.1+least).toNat →
  kJ F rec64 least x i x2 f j (out++rng f t,(t:Int))=jk F rec64 least x i x2 f (out++rng f (x2.1+least).toNat)
 | 0,_,_,_=>by omega
 | j+1,t,h,ht=>by
  show qbv F rec64 least x i x2 f (kJ F rec64 least x i x2 f j) (out++rng f t) (t:Int)=_
  unfold qbv
  have e1:iconv .i64 x2.1=x2.1:=qX (by omega) (by omega)
  rw[e1,qw (a:=x2.1) (by omega) (by omega)]
  by_cases hlt:(t:Int)<x2.1+least
  ·rw[if_pos (by simpa using hlt),qw (by omega) (by omega),qT (by rw[qxF,yQ];simp;omega)]
   simp only[qxD]
   rw[qn (by omega),qxG,← qhm]
   exact qww hx0 hx hle hle2 hf hf2 ho j (t+1) (by omega) (by omega)
  ·rw[if_neg (by simpa using hlt),show t=(x2.1+least).toNat from by omega]
theorem qvq {F:Nat}{e node g:Int}(hn:Nd node)(hg:U64 g):qdq F g node true=some (gFst false e node g):=qks (b:=false) hn hg
theorem qtw {F k:Nat}(hF:2000000≤F)(h1:1≤k)(h2:k≤16){l:qAq}(hl:Bit l)(hm:l.length≤8192){node many least:Int}(hn:Nd node)(hmm:many≤300)(hle:0<least)(hle2:least≤300){x x9:Int×Int×Int}(hx:x.1=many){n:Nat}(hx9:x9.1=(n:Int))(hn3:n≤300) :
  ∀ (j i p:Nat) (out:qAq) (e:Int),n<j+i→i≤n→(out.length:Int)≤many→p≤l.length→(0<i→0≤e∧e≤2000000)→(i=0→e=node) →
  qP F l node least (k:Int) x x9 j ((p:Int),out,e,(i:Int))=some (gRn l k node least many (n-i) (decide (0<i)) e out p)
 | 0,_,_,_,_,_,_,_,_,_,_=>by omega
 | j+1,i,p,out,e,h,hi,ho,hp,he,he0=>by
  show qbu F l node least (k:Int) x x9 (qP F l node least (k:Int) x x9 j) (p:Int) out e (i:Int)=_
  unfold qbu
  have heb:0≤e∧e≤2000000:=by
   by_cases h0:0<i
   ·exact he h0
   ·have:=he0 (by omega)
    have:=hn.1;have:=hn.2
    omega
  rw[hx9]
  by_cases hlt:i<n
  ·rw[if_pos (by simpa using hlt),show n-i=(n-(i+1))+1 from by omega]
   simp only[gRn]
   refine qiL (most:=4194304) (by omega) hl hm hp (fun g hg=>?_) (fun g hg g0 g1 g2 g3=>?_)
   ·rw[if_pos (by simpa using hg)]
   ·simp only
    rw[if_neg (by simp;omega)]
    refine qiL (most:=1000) (by omega) hl hm g3 (fun y hy=>?_) (fun y hy y0 y1 y2 y3=>?_)
    ·rw[if_pos (by simpa using hy)]
    ·simp only
     rw[if_neg (by simp;omega)]
     have eg:iconv .i64 g.1=g.1:=qX (by omega) (by omega)
     unfold lett
     rw[eg,qw (a:=e) (by omega) (by omega),qw (a:=e+g.1) (by omega) (by omega)]
     have hstep:∀ f:Int,f=gFst (decide (0<i)) e node g.1→ji F (qP F l node least (k:Int) x x9 j) least x out (i:Int) (y.1,(y.2:Int),0) f=some (if gFst (decide (0<i)) e node g.1<0∨1048576<gFst (decide (0<i)) e node g.1 then ([],false) else
       if many<((out++rng (gFst (decide (0<i)) e node g.1) (y.1+least).toNat).length:Int) then ([],false)
       else gRn l k node least many (n-(i+1)) true (gFst (decide (0<i)) e node g.1+y.1+least-1) (out++rng (gFst (decide (0<i)) e node g.1) (y.1+least).toNat) y.2):=by
      intro f hf
      rw[← hf]
      unfold ji
      by_cases hc:f<0∨1048576<f
      ·rw[if_pos (by simpa using hc),if_pos hc]
      ·rw[if_neg (by simpa using hc),if_neg hc]
       have hr:=qww (F:=F) (rec64:=qP F l node least (k:Int) x x9 j) (least:=least) (i:=(i:Int)) (f:=f) (x:=x) (x2:=(y.1,(y.2:Int),0)) (out:=out) y0 y1 (by omega) hle2 (by omega) (by omega) (by omega) F 0 (by simp only;omega) (qx7 _)
       have hr':kJ F (qP F l node least (k:Int) x x9 j) least x (i:Int) (y.1,(y.2:Int),0) f F (out,0)=jk F (qP F l node least (k:Int) x x9 j) least x (i:Int) (y.1,(y.2:Int),0) f (out++rng f (y.1+least).toNat):=by
        have e0:out++rng f 0=out:=by simp[rng]
        rw[e0] at hr
        exact hr
       rw[hr']
       unfold jk lett
       have em:iconv .i64 many=many:=qX (by omega) (by omega)
       have ey:iconv .i64 y.1=y.1:=qX (by omega) (by omega)
       simp only
       rw[hx,em,ey]
       by_cases hc2:many<((out++rng f (y.1+least).toNat).length:Int)
       ·rw[if_pos (by simpa using hc2),if_pos hc2]
       ·rw[if_neg (by simpa using hc2),if_neg hc2]
        unfold qdF
        rw[qn8 (by omega) (by omega),qw (a:=f) (by omega) (by omega),qw (a:=f+y.1) (by omega) (by omega),qy (by omega) (by omega),show ((i:Int)+1)=((i+1:Nat):Int) from by omega]
        rw[qtw hF h1 h2 hl hm hn hmm hle hle2 hx hx9 hn3 j (i+1) y.2 _ _ (by omega) (by omega) (by omega) y3 (fun _=>by omega) (fun h=>by omega)]
        rw[decide_eq_true (show 0<i+1 from by omega)]
     refine Eq.trans ?_ (hstep _ rfl)
     show (if ((i:Int) == 0)=true then _ else _)=_
     by_cases h0:i=0
     ·rw[if_pos (by simp[h0]),qvq (e:=e) hn ⟨g0,by omega⟩,show decide (0<i)=false from by simp[h0]]
      rfl
     ·rw[if_neg (by simp;omega),decide_eq_true (show 0<i from by omega)]
      rfl
  ·rw[if_neg (by simpa using hlt),show n-i=0 from by omega]
   exact qq7 hF h1 h2 hl hm hn ho hmm hp hx
theorem qtv {F k:Nat}(hF:2000000≤F)(h1:1≤k)(h2:k≤16){l:qAq}(hl:Bit l)(hm:l.length≤8192){node many least:Int}(hn:Nd node){out:qAq}(ho:(out.length:Int)≤many)(hmm:many≤300)(_hle:0≤least)(hle2:least≤300){p:Nat}(hp:p≤l.length){x:Int×Int×Int}(hx:x.1=many) :
  jg F l node least (k:Int) x (p:Int) out=some (gG2 l k node least many out p):=by
 unfold jg gG2
 have em:iconv .i64 many=many:=qX (by omega) (by omega)
 rw[hx,em]
 by_cases h0:(out.length:Int)=many
 ·rw[if_pos (by simpa using h0),if_pos h0]
 ·rw[if_neg (by simpa using h0),if_neg h0]
  by_cases h3:0<least
  ·rw[if_pos (by simpa using h3),if_pos h3]
   refine qiL (most:=300) (by omega) hl hm hp (fun g hg=>?_) (fun g hg g0 g1 g2 g3=>?_)
   ·rw[if_pos (by simpa using hg)]
   ·simp only
    rw[if_neg (by simp;omega)]
    have:=qtw hF h1 h2 hl hm hn hmm h3 hle2 hx (x9:=(g.1,(g.2:Int),0)) (n:=g.1.toNat) (by simp only;omega) (by omega) F 0 g.2 out node (by omega) (qx7 _) ho g3 (fun h=>by omega) (fun _=>rfl)
    exact this
  ·rw[if_neg (by simpa using h3),if_neg h3]
   exact qq7 hF h1 h2 hl hm hn ho hmm hp hx
theorem qtt {F k:Nat}(hF:2000000≤F){l:qAq}(hl:Bit l)(hm:l.length≤8192){node least:Int}{fr:qAq}{x x9:Int×Int×Int}{n:Nat}(hx9:x9.1=(n:Int))(hn3:n≤400) :
  ∀ (j i p:Nat) (bs:qAq),n<j+i→i≤n→bs.length=i→p≤l.length →
  kn F l node fr least (k:Int) x x9 j ((p:Int),bs,(i:Int))=match rbl l 1000 (n-i) (decide (0<i)) p with | none=>some ([],false) | some b=>jl F l node fr least (k:Int) x (b.2:Int) (bs++b.1)
 | 0,_,_,_,_,_,_,_=>by omega
 | j+1,i,p,bs,h,hi,hb,hp=>by
  show qbw F l node fr least (k:Int) x x9 (kn F l node fr least (k:Int) x x9 j) (p:Int) bs (i:Int)=_
  unfold qbw
  rw[hx9]
  by_cases hlt:i<n
  ·rw[if_pos (by simpa using hlt),show n-i=(n-(i+1))+1 from by omega,qgH (by omega) hl hm hp]
   simp only[qxD,rbl]
   cases hr:rgam l p 1000 with
   | none =>
    rw[if_pos (by
     unfold rgam at hr
     split at hr
     ·simp at hr
     ·rename_i hc
      simp only[qyC,bne_iff_ne,ne_eq,decide_eq_true_eq]
      by_cases h9:(fg l p).2.2=0
      ·right
       have:=fun h8=>hc ⟨h9,h8⟩
       omega
      ·left;exact h9)]
    rfl
   | some g =>
    have hok:=vO hr
    have hfg:fg l p=(g.1,(g.2:Int),0):=by
     unfold rgam at hr
     split at hr
     ·rename_i hc
      simp only[qxR] at hr
      rw[← hr]
      have h3:0≤(fg l p).2.1:=by
       rcases ql7 (l:=l) (a:=p) with h1 | ⟨n,q,h1,h2,h3⟩
       ·exact absurd hc.1 h1
       ·rw[h1];simp
      simp only
      rw[qzE h3,← hc.1]
     ·simp at hr
    rw[hfg]
    simp only[qxD]
    rw[if_neg (by simp;omega)]
    have hst:∀ y:Int,0≤y→y≤2000→jm F (kn F l node fr least (k:Int) x x9 j) bs (i:Int) (g.1,(g.2:Int),0) y=match rbl l 1000 (n-(i+1)) true g.2 with | none=>some ([],false) | some b=>jl F l node fr least (k:Int) x (b.2:Int) (bs++y::b.1):=by
     intro y y0 y1
     unfold jm
     have ey:iconv .i64 y=y:=qX (by omega) (by omega)
     rw[ey,qT (by simp;omega)]
     simp only[qxD]
     rw[qn8 (by omega) (by omega),show ((i:Int)+1)=((i+1:Nat):Int) from by omega]
     rw[qtt hF hl hm hx9 hn3 j (i+1) g.2 _ (by omega) (by omega) (by simp[hb]) hok.2.2.2,decide_eq_true (show 0<i+1 from by omega)]
     cases rbl l 1000 (n-(i+1)) true g.2 with
     | none=>rfl
     | some b=>simp
    by_cases h0:0<i
    ·rw[if_pos (by simpa using h0),qn8 (by omega) (by omega),hst _ (by omega) (by omega),decide_eq_true h0]
     simp only[if_true]
     cases rbl l 1000 (n-(i+1)) true g.2 with
     | none=>rfl
     | some b=>rfl
    ·rw[if_neg (by simpa using h0),hst _ (by omega) (by omega),decide_eq_false h0]
     simp only[qxP,if_false,Int.add_zero]
     cases rbl l 1000 (n-(i+1)) true g.2 with
     | none=>rfl
     | some b=>rfl
  ·rw[if_neg (by simpa using hlt),show n-i=0 from by omega]
   simp[rbl]
end Go.Proofs.YtmhggdbfbmkpeaaGreat
