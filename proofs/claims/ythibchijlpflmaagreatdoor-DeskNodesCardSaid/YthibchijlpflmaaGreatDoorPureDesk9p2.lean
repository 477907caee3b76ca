/- Plain facts of what the functions of this seat compute, part 2. -/
import Derived.Test.YthibchijlpflmaaGreatDoorPureDesk9
import Derived.KernelRfl
import Derived.Lib.SlicesCompact
import Derived.Lib.SplitLaws
open BitVec renaming ofNat→qBI, ofInt→qBS
open Bool renaming false_eq_true→qBy, and_eq_true→qB6, not_true→qCe, or_eq_true→qCK, not_eq_true'→qCL, not_false→qDv
open Int renaming eq_ofNat_of_zero_le→qBm, toNat_natCast→qBo, ediv_le_self→qDl
open List renaming replicate→qBj, getElem?_eq_getElem→qBk, mem_of_getElem?→qBl, mem_append→qBn, mem_cons→qBp, drop_eq_getElem_cons→qBq, length_append→qBr, append_assoc→qBt, drop_eq_nil_of_le→qBu, mem_cons_self→qBv, range→qBx, mem_cons_of_mem→qBz, getElem_mem→qBE, nil_append→qBF, length_map→qBJ, mem_map→qBK, length_replicate→qBP, length_cons→qBQ, append_nil→qBV, drop_zero→qB1, cons_append→qCb, mem_filter→qCf, perm_middle→qCn, replicate_succ→qCq, length_nil→qCw, take_length→qCB, length_singleton→qCY, filter_cons→qC3, filter_sublist→qC6, drop_succ_cons→qC7, range_succ→qDb
open List.Perm renaming refl→qBM
open Nat renaming le_refl→qBw, zero_le→qBH, mul_le_mul_right→qBN, pow_le_pow_right→qBW, add_mul→qB4, zero_add→qB9, div_le_self→qCx, div_le_div_right→qCy, add_sub_cancel→qCU, add_comm→qCZ, div_add_mod→qDa, mul_le_mul→qDe, lt_succ_self→qDG, one_mul→qDX
open Option renaming bind_some→qBi, bind_eq_some_iff→qBR, map_bind→qDQ
open Option.some renaming injEq→qBs
open Prod.mk renaming injEq→qDB
namespace Go.Proofs.YthibchijlpflmaaGreatDoor
open Go SX
variable {F:Nat} {rec68:(List (Int×Int)×qD0×Int)→Option (List (Int×Int)×qD0)} {l:qD0} {lea0:Int} {o:List (Int×Int)} {rest:qD0} {i:Int}
variable {F:Nat} {g:List (qD0)} {B l K:Int}
theorem qun (hF:200000≤F)(hg:Gr g):qdK F g=some (cntC g.length (th g).flatten,((th g).length:Int),0):=by
 have h1:=hg.1
 unfold qdK
 rw[qa0 (by omega),jP.2 hg]
 simp only[qBi]
 rw[if_neg (by simp),qz0 (by omega)]
 simp only[qBi]
 rw[qso (by omega) hg]
 simp only[qBi]
 unfold qfL qeg
 simp only[qBi]
 have ho:=qw5 (F:=F) (yy:=fun (x:Int×qD0) x_1=>kZ F x.1 x.2 x_1) hF (qq4 hg) F 0 (0,qBj g.length 0) (by rw[qf5];omega) (by omega)
 rw[qB1] at ho
 have hf:=qs5 (F:=F) (n:=g.length) (yy:=fun x x_1=>kZ F x.1 x.2 x_1) (by omega) (fun _ _=>rfl) (th g) [] (qAw hg) (by simp) (by grind [qw3])
 have e0:cntC g.length ([]:List (qD0)).flatten=qBj g.length 0:=by
  apply List.ext_getElem (by simp[cntC])
  grind [cntC]
 rw[e0,qBF] at hf
 have hf':qaW (fun (x:Int×qD0) x_1=>kZ F x.1 x.2 x_1) (t1 (nr g) 0 (nr g)) (0,qBj g.length 0)=_:=hf
 simp_all
def okB:Bool→qD0→Bool
 | _,[]=>true
 | f,n::bs=>decide (0≤n) && (f || decide (1≤n)) && okB false bs
def bsum:qD0→Int
 | []=>0
 | n::bs=>n+bsum bs
theorem qhq (f:Bool)(n:Int)(bs:qD0):okB f (n::bs)=(decide (0≤n) && (f || decide (1≤n)) && okB false bs):=rfl
theorem qn0:∀ {f:Bool} {bs:qD0},okB f bs=true→(∀ n∈bs,0≤n)∧0≤bsum bs
 | _,[],_=>by simp[bsum]
 | f,n::bs,h=>by
  unfold okB at h
  simp only[qB6,decide_eq_true_eq] at h
  obtain ⟨h1,h2⟩:=qn0 h.2
  refine ⟨fun m hm=>?_,?_⟩
  ·grind
  grind [bsum]
def ccE (L:Int)(f:Bool)(t:Int)(bs:qD0):Int:=if okB f bs then (if L<t+bsum bs then 8 else 0) else 3
theorem qxp (L:Int)(f:Bool)(t:Int):ccE L f t []=if L<t then 8 else 0:=by simp[ccE,okB,bsum]
variable {f:Bool}{N a back hw lw many most node t w:Int}{R:List (Int×Int)}{k p r:Nat}{α:Type}{S b hb lb s x xh xl:qD0}
theorem qrV {L:Int}{n:Int}{bs:qD0}(h:n<0∨(n<1∧f=false)):ccE L f t (n::bs)=3:=by
 unfold ccE okB
 grind
theorem qzG {L:Int}{n:Int}{bs:qD0}(h:¬ (n<0∨(n<1∧f=false))):ccE L f t (n::bs)=ccE L false (t+n) bs:=by
 have e:okB f (n::bs)=okB false bs:=by
  rw[qhq]
  grind
 grind [ccE,bsum]
theorem qxo {L:Int}{t':Int}{bs:qD0}(h:L<t)(h':L<t'):ccE L f t bs=ccE L f t' bs:=by
 unfold ccE
 by_cases ho:okB f bs=true
 ·have:=(qn0 ho).2
  grind
 simp_all
theorem qpx {F:Nat}{bs:qD0}{L:Nat}(hL:L≤300)(hb:bs.length≤301):∀ (k i:Nat) (s:Int),bs.length<k+i→i≤bs.length→0≤s∧s≤L+1 →
  qbk F bs (L:Int) k (s,(i:Int))=some (ccE L (decide (i=0)) s (bs.drop i))
 | 0,_,_,_,_,_=>by omega
 | k+1,i,s,h,hi,hs=>by
  show qc0 F bs (L:Int) (qbk F bs (L:Int) k) s (i:Int)=_
  unfold qc0
  by_cases hlt:i<bs.length
  ·rw[if_pos (by simp_all),qo,qBk hlt,qBq hlt]
   simp only[qBi]
   have hrec:=fun s hs=>qpx (F:=F) hL hb k (i+1) s (by omega) (by omega) hs
   rw[decide_eq_false (show ¬ i+1=0 by omega)] at hrec
   generalize bs[i]=n at hrec ⊢
   generalize bs.drop (i+1)=R at hrec ⊢
   unfold qbj
   by_cases h1:n<0
   ·rw[if_pos (by grind),if_pos rfl,qrV (.inl h1)]
   ·rw[if_neg (by grind)]
    by_cases h2:n<1∧0<i
    ·grind [qrV]
    ·have h3:¬ (n<0∨(n<1∧decide (i=0)=false)):=by
      simp_all
     rw[if_neg (by simp_all),qzG h3]
     unfold lett
     have em:imin n (iadd .i64 (L:Int) 1)=if n≤L then n else (L:Int)+1:=by
      grind [zb,imin]
     grind [zb,imin,qxo]
  grind [qxp,qc1]
def bkE (L:Nat)(bs:qD0):Int:=if L+1<bs.length then 2 else ccE L true 0 bs
theorem qtJ (hF:200000≤F){bs:qD0}{L:Nat}(hL:L≤300):qdQ F bs (L:Int)=some (bkE L bs):=by
 grind [qdQ,bkE,qu,qpx]
theorem qzC {L:Nat}{bs:qD0}:bkE L bs=0↔bs.length≤L+1∧okB true bs=true∧bsum bs≤L:=by
 grind [bkE,ccE]
def cp:qD0→qD0→Bool→qD0
 | l,[],c=>if c then l else []
 | l,n::bs,c=>(if c then l.take n.toNat else [])++cp (l.drop n.toNat) bs (!c)
theorem qpa {F:Nat}{bs:qD0}(hbm:bs.length≤1000):∀ (k i:Nat) (l o:qD0) (c:Bool),bs.length<k+i→i≤bs.length→l.length≤300→o.length≤300*i→(∀ n∈bs.drop i,0≤n)→bsum (bs.drop i)≤l.length →
  qav F bs k (l,o,c,(i:Int))=some (o++cp l (bs.drop i) c)
 | 0,_,_,_,_,_,_,_,_,_,_=>by omega
 | k+1,i,l,o,c,h,hi,hl,ho,hn,hs=>by
  show qcq F bs (qav F bs k) l o c (i:Int)=_
  unfold qcq
  by_cases hlt:i<bs.length
  ·rw[qBq hlt] at hn hs ⊢
   have hrec:=fun l o c h1 h2 h3=>qpa (F:=F) hbm k (i+1) l o c (by omega) (by omega) h1 h2 (fun n hn'=>hn n (qBz _ hn')) h3
   have hg:idx bs (i:Int)=some bs[i]:=by grind [qo]
   rw[if_pos (by simp_all),hg]
   have h0:=hn bs[i] (qBv ..)
   have hsum:0≤bsum (bs.drop (i+1)):=by
    have:∀ (R:qD0),(∀ n∈R,0≤n)→0≤bsum R:=by
     intro R
     induction R with
     | nil=>intro _;simp[bsum]
     | cons x R ih=>intro h;unfold bsum;have:=h x (by simp);grind
    grind
   unfold bsum at hs
   generalize bs[i]=n at hrec h0 hs ⊢
   obtain ⟨m,rfl⟩:=qBm h0
   have hml:m≤l.length:=by omega
   have s1:=qlM (l:=l) (i:=0) (j:=m) (by omega) hml
   have s2:=qlM (l:=l) (i:=m) (j:=l.length) hml (qBw _)
   rw[qCB] at s2
   rw[show ((0:Nat):Int)=0 from rfl,qB1] at s1
   simp only[qBi]
   unfold qau cp
   simp only[qBo]
   cases c
   ·grind [qu]
   ·rw[if_pos rfl,if_pos rfl,s1]
    grind [kG,qu]
  ·rw[if_neg (by simp_all),qBu (by omega)]
   unfold qc2 qbl cp
   cases c
   ·simp
   ·rw[if_pos rfl,kG (by omega)];simp
def cpE (l bs:qD0):Int:=if gkc l≠0 then gkc l else bkE l.length bs
def cpy (l bs:qD0):qD0×Int:=if cpE l bs≠0 then ([],cpE l bs) else (cp l bs true,0)
theorem quK {l bs:qD0}:cpE l bs=0↔(l.length≤300∧Ris (-1) l)∧bs.length≤l.length+1∧okB true bs=true∧bsum bs≤l.length:=by
 grind [cpE,vt,qzC]
theorem quM {l bs:qD0}(h:cpE l bs=0):cpy l bs=(cp l bs true,0):=by grind [cpy]
theorem qxw {l bs:qD0}(h:cpE l bs≠0):cpy l bs=([],cpE l bs):=by grind [cpy]
theorem qxK {l:qD0}(h:gkc l=0):l.length≤300:=(vt.1 h).1
theorem qxt (hF:200000≤F){l bs:qD0}:qeG F l bs=some (cpy l bs):=by
 unfold qeG
 rw[qgk (by omega)]
 simp only[qBi]
 have hj:qaN F l bs (cpE l bs)=some (cpy l bs):=by
  unfold qaN
  by_cases h:cpE l bs=0
  ·obtain ⟨⟨h1,h2⟩,h3,h4,h5⟩:=quK.1 h
   have:=qpa (F:=F) (bs:=bs) (by omega) F 0 l [] true (by omega) (by omega) h1 (by simp) (by rw[qB1];exact (qn0 h4).1) (by simp_all)
   rw[qB1,qBF,show ((0:Nat):Int)=0 from rfl] at this
   grind [quM,qfe]
  grind [qxw]
 grind [cpE,qtJ,qxK]
theorem qsU:∀ {e:Int} {R:List (Int×Int)},Sep e R→∀ r∈R,e<r.1
 | _,[],_=>by simp
 | e,r::R,h=>by
  intro r' hr
  rcases qBp.1 hr with rfl | hr
  ·exact h.1
  ·have:=qsU h.2.2 r' hr;have:=h.1;have:=h.2.1;omega
def Mx (l:qD0)(r:Int×Int):Prop:=1≤r.2∧r.1-1∉l∧r.1+r.2∉l∧∀ z,r.1≤z→z<r.1+r.2→z∈l
theorem qwm:∀ {e:Int} {R:List (Int×Int)},Sep e R→∀ r∈R,Mx (flat R) r
 | _,[],_=>by simp
 | e,r::R,h=>by
  intro r' hr
  have h1:=h.2.1
  have hlt:=qrc h.2.2
  rcases qBp.1 hr with rfl | hr
  ·refine ⟨h1,fun hm=>?_,fun hm=>?_,fun z h2 h3=>?_⟩
   ·rw[k7] at hm
    rcases qBn.1 hm with hm | hm
    ·have:=qdZ.1 hm;omega
    ·have:=hlt _ hm;omega
   ·rw[k7] at hm
    rcases qBn.1 hm with hm | hm
    ·have:=qdZ.1 hm;omega
    ·have:=hlt _ hm;omega
   ·rw[k7]
    exact qBn.2 (.inl (qdZ.2 (by omega)))
  ·obtain ⟨i1,i2,i3,i4⟩:=qwm h.2.2 r' hr
   have hf:=qsU h.2.2 r' hr
   refine ⟨i1,fun hm=>?_,fun hm=>?_,fun z h2 h3=>?_⟩
   ·rw[k7] at hm
    rcases qBn.1 hm with hm | hm
    ·have:=qdZ.1 hm;omega
    ·exact i2 hm
   ·rw[k7] at hm
    rcases qBn.1 hm with hm | hm
    ·have:=qdZ.1 hm;omega
    ·exact i3 hm
   ·rw[k7]
    exact qBn.2 (.inr (i4 z h2 h3))
theorem qm8 {x b:Int}:qb5 F x a b=some (decide (a≤x∧x≤b)):=by
 unfold qb5
 simp
def RunOk (r:Int×Int):Prop:=(0≤r.1∧r.1≤1048576)∧(1≤r.2∧r.2≤300)∧r.1+r.2-1≤1048576
instance runOkDec (r:Int×Int):Decidable (RunOk r):=inferInstanceAs (Decidable (_∧_∧_))
def sk:Int→List (Int×Int)→Int
 | _,[]=>0
 | e,r::R=>if RunOk r then (if r.1<e+2 then 4 else sk (r.1+r.2-1) R) else 3
theorem qws:∀ {e:Int} {R:List (Int×Int)},sk e R=0↔(∀ r∈R,RunOk r)∧Sep (e+1) R
 | _,[]=>by simp[sk,Sep]
 | e,r::R=>by
  unfold sk Sep
  by_cases h:RunOk r
  ·rw[if_pos h]
   by_cases h2:r.1<e+2
   ·omega
   ·rw[if_neg h2,qws]
    rw[show r.1+r.2-1+1=r.1+r.2 from by omega]
    have h3:1≤r.2:=h.2.1.1
    grind
  simp_all
theorem qjI:∀ {R:List (Int×Int)},(∀ r∈R,RunOk r)→(flat R).length≤300*R.length
 | [],_=>by simp[flat]
 | r::R,h=>by
  have h1:=qjI (R:=R) fun r hr=>h r (by grind)
  have h2:=h r (by simp)
  grind [RunOk,k7,qeM]
theorem qmZ {F:Nat}{rec32:(qD0×Int)→Option (qD0×Int)}{i:Int}{r:Int×Int}{acc:qD0}(hr:RunOk r)(ha:acc.length≤1000000):∀ (k j:Nat),r.2.toNat<k+j→j≤r.2.toNat →
  qc6 F rec32 i r k (acc++rng r.1 j,(j:Int))=qbr F rec32 i (acc++rng r.1 r.2.toNat)
 | 0,_,_,_=>by omega
 | k+1,j,h,hj=>by
  unfold RunOk at hr
  show qc4 F rec32 i r (qc6 F rec32 i r k) (acc++rng r.1 j) (j:Int)=_
  unfold qc4
  by_cases hlt:j<r.2.toNat
  ·rw[if_pos (by simp_all),zb (by omega) (by omega),kG (by simp[qeM];omega),qu (by omega)]
   simp only[qBi]
   rw[qBt,← qlv]
   exact qmZ hr ha k (j+1) (by omega) (by omega)
  grind
theorem qtw {i:Nat}(h:i<R.length):flat (R.take (i+1))=flat (R.take i)++rng R[i].1 R[i].2.toNat:=by
 grind [List.take_add_one,flat]
theorem qlK {F:Nat}(hF:1000<F){R:List (Int×Int)}(hR:∀ r∈R,RunOk r)(hl:R.length≤300):∀ (k i:Nat),R.length<k+i→i≤R.length →
  ju F R k (flat (R.take i),(i:Int))=some (flat R,0)
 | 0,_,_,_=>by omega
 | k+1,i,h,hi=>by
  show qc3 F R (ju F R k) (flat (R.take i)) (i:Int)=_
  unfold qc3
  by_cases hlt:i<R.length
  ·have hok:=hR _ (qBE hlt)
   have hsz:=qjI (R:=R.take i) fun r hr=>hR r (List.mem_of_mem_take hr)
   rw[List.length_take] at hsz
   have hsp:=qmZ (F:=F) (rec32:=ju F R k) (i:=(i:Int)) (acc:=flat (R.take i)) hok (by omega) F 0 (by grind [RunOk]) (by omega)
   rw[rng,qBV,show ((0:Nat):Int)=0 from rfl] at hsp
   rw[if_pos (by simp_all),qo,qBk hlt]
   simp only[qBi]
   rw[hsp,← qtw hlt]
   unfold qbr
   rw[qu (by omega)]
   exact qlK hF hR hl k (i+1) (by omega) (by omega)
  ·rw[if_neg (by simp_all)]
   obtain rfl:i=R.length:=by omega
   rw[qCB];rfl
theorem qlh {b:Int}(h1:-1000000000≤a∧a≤1000000000)(h2:-1000000000≤b∧b≤1000000000):isub .i64 (iadd .i64 a b) 1=a+b-1:=by
 grind [zb,zN]
theorem qlJ {F:Nat}{R:List (Int×Int)}(hl:R.length≤300):∀ (k i:Nat) (e:Int),R.length<k+i→i≤R.length→-2≤e∧e≤1048576 →
  qbs F R k (e,(i:Int))=if sk e (R.drop i)≠0 then some ([],sk e (R.drop i)) else qbq F R
 | 0,_,_,_,_,_=>by omega
 | k+1,i,e,h,hi,he=>by
  show qc5 F R (qbs F R k) e (i:Int)=_
  unfold qc5
  by_cases hlt:i<R.length
  ·rw[if_pos (by simp_all),qo,qBk hlt,qBq hlt,sk]
   generalize R[i]=r
   simp only[qBi]
   rw[qm8,qm8]
   simp only[qBi]
   by_cases h1:0≤r.1∧r.1≤1048576
   ·rw[decide_eq_true h1,if_neg (by simp)]
    by_cases h2:1≤r.2∧r.2≤300
    ·rw[decide_eq_true h2,if_neg (by simp),qlh (by omega) (by omega)]
     unfold jt
     by_cases h3:r.1+r.2-1≤1048576
     ·have hok:RunOk r:=⟨h1,h2,h3⟩
      rw[if_neg (by simp_all),if_pos hok,zb (by omega) (by omega)]
      by_cases h4:r.1<e+2
      ·simp_all
      ·rw[if_neg (by grind),if_neg h4,qlh (by omega) (by omega),qu (by omega)]
       exact qlJ hl k (i+1) _ (by omega) (by omega) (by omega)
     grind [RunOk]
    ·have hok:¬ RunOk r:=fun h=>h2 h.2.1
     rw[decide_eq_false h2,if_pos (by simp),if_neg hok,if_pos (by decide)]
     rfl
   ·have hok:¬ RunOk r:=fun h=>h1 h.1
    rw[decide_eq_false h1,if_pos (by simp),if_neg hok,if_pos (by decide)]
    rfl
  grind [sk]
def skc (R:List (Int×Int)):Int:=if 300<R.length then 2 else sk (-2) R
def spd (R:List (Int×Int)):qD0×Int:=if skc R≠0 then ([],skc R) else (flat R,0)
theorem qre:skc R=0↔R.length≤300∧(∀ r∈R,RunOk r)∧Sep (-1) R:=by
 grind [skc,qws]
theorem qt0 (hF:20000≤F):qdS F R=some (spd R):=by
 unfold qdS spd
 by_cases h:300<R.length
 ·grind [skc]
 ·have e:skc R=sk (-2) R:=by grind [skc]
  have hc:=qlJ (F:=F) (R:=R) (by omega) F 0 (-2) (by omega) (by omega) (by omega)
  rw[qB1] at hc
  rw[if_neg (by grind),e]
  refine hc.trans ?_
  by_cases h2:sk (-2) R=0
  ·rw[if_neg (by omega),if_neg (by omega)]
   unfold qbq
   have hok:=qre.1 (e.trans h2)
   exact qlK (by omega) hok.2.1 hok.1 F 0 (by omega) (by omega)
  simp_all
def rm (R:List (Int×Int))(rest:qD0):qD0×Int:=if skc R≠0 then ([],skc R) else if gkc rest≠0 then ([],gkc rest) else mrg (flat R) rest
theorem qBf (h:skc R≠0):rm R rest=([],skc R):=by grind [rm]
theorem qBg (h:skc R=0)(h2:gkc rest≠0):rm R rest=([],gkc rest):=by grind [rm]
theorem qA4 (h:skc R=0)(h2:gkc rest=0):rm R rest=mrg (flat R) rest:=by grind [rm]
theorem qAn (h:skc R=0):spd R=(flat R,0):=by grind [spd]
theorem qyk (h:skc R≠0):spd R=([],skc R):=by grind [spd]
theorem qvy (hF:20000≤F):qeH F R rest=some (rm R rest):=by
 unfold qeH
 rw[qt0 hF,qgk hF]
 simp only[qBi]
 by_cases h:skc R=0
 ·rw[qAn h,if_pos (by simp)]
  unfold qaO
  grind [qA4,qre,vt,qjI,qtC,qwn,qb1,qBg]
 grind [qyk,qBf,qaO]
theorem qtP {w:qD0}(h1:skc R=0)(h2:gkc rest=0)(h3:cmn (flat R) rest=false)(h4:(flat R++rest).Perm w)(h5:w.Pairwise (·≤·))(h6:w.length≤300):rm R rest=(w,0):=by
 have hl:=h4.length_eq
 grind [qA4,mrg,qoc]
theorem qxY {l r:qD0}:(mrg l r).1.length≤300:=by
 grind [mrg,qhI]
theorem qAf:(rm R rest).1.length≤300:=by
 grind [rm,qxY]
theorem qtK {A B:List (Int×Int)}(h:A.Perm B):(flat A).Perm (flat B):=h.flatMap_right _
theorem qiu (least:Int):∀ (R:List (Int×Int)),(spO least R++spS least R).Perm R
 | []=>qBM _
 | r::R=>by
  by_cases h:least≤r.2
  ·rw[qzj h,qzk h];exact (qiu least R).cons r
  ·rw[qzi h,qzl h];exact qCn.trans ((qiu least R).cons r)
theorem qpU (least:Int)(l:qD0):(flat (spO least (rs l))++flat (spS least (rs l))).Perm l:=by
 grind [qpj,qtK,qiu,qeN]
theorem qyl {q:Int}{least:Int}{l:qD0}(hl:l.length≤300)(h:Ris q l):(spO least (rs l)).length≤300∧(flat (spS least (rs l))).length≤300:=by
 have h1:=qjG (qlz (qb1 h).1 (qb1 h).2)
 rw[qeN] at h1
 have h2:=(qpU least l).length_eq
 grind [spO]
theorem qwh {l:qD0}(hl:l.length≤300)(h:Ris (-1) l):Sep (-1) (rs l)∧∀ r∈rs l,RunOk r:=by
 have hs:=qlz (qb1 h).1 (qb1 h).2
 refine ⟨hs,fun r hr=>?_⟩
 have hm:=qwm hs r hr
 have h2:=qjH hr
 rw[qeN] at hm h2
 have h1:=hm.1
 have a1:=qjV h _ (hm.2.2.2 r.1 (by omega) (by omega))
 have a2:=qjV h _ (hm.2.2.2 (r.1+r.2-1) (by omega) (by omega))
 unfold Nd at a1 a2
 exact ⟨by omega,by omega,by omega⟩
theorem qyr {l:qD0}(hl:l.length≤300)(h:Ris (-1) l)(p:Int×Int→Bool):skc ((rs l).filter p)=0:=by
 grind [qwh,qjG,qeN,qre,qgR]
theorem qoe {l:qD0}(h:Ris (-1) l)(p:Int×Int→Bool):Ris (-1) (flat ((rs l).filter p)):=by
 grind [qb1,flat,qeN,qn6,qjV]
theorem quL (f:Int→Bool):∀ (l pre:qD0) (c:Bool),cp (pre++l) (tb c pre.length (l.map f)) c=(if c then pre else [])++l.filter f
 | [],pre,c=>by
  show cp (pre++[]) [] c=_
  unfold cp
  simp
 | x::l,pre,c=>by
  rw[List.map_cons,qC3]
  by_cases h:f x=c
  ·have ih:=quL f l (pre++[x]) c
   grind [qjo]
  ·have ih:=quL f l [x] (f x)
   rw[qjp h]
   unfold cp
   have hc:(!c)=f x:=by grind
   rw[hc,show ((1:Int))=(([x]:qD0).length:Int) from rfl,qBo,List.take_left,List.drop_left]
   grind
theorem qzH (l m:qD0):cp l (tbs l m) true=l.filter (hasB m):=by
 have:=quL (hasB m) l [] true
 simpa[tbs] using this
theorem qln:∀ (bs:List Bool) (f c:Bool) (m:Int),0≤m→(f=true∨1≤m)→okB f (tb c m bs)=true
 | [],_,_,_,_,_=>rfl
 | b::bs,f,c,m,h,hf=>by
  by_cases hb:b=c
  ·subst hb
   rw[qjo]
   exact qln bs f b (m+1) (by omega) (.inr (by omega))
  ·rw[qjp hb,qhq,qln bs false b 1 (by omega) (.inr (by omega))]
   simp_all
theorem qiV:∀ (bs:List Bool) (c:Bool) (m:Int),0≤m→bsum (tb c m bs)≤m+bs.length
 | [],_,_,h=>by show (0:Int)≤_;omega
 | b::bs,c,m,h=>by
  by_cases hb:b=c
  ·subst hb
   rw[qjo]
   have:=qiV bs b (m+1) (by omega)
   grind
  ·rw[qjp hb]
   have:=qiV bs b 1 (by omega)
   grind [bsum]
theorem qos (l m:qD0):(tbs l m).length≤l.length:=by
 have:=qrz true 0 (l.map (hasB m))
 rwa [qBJ] at this
theorem qxv {l m:qD0}(h:gkc l=0):cpE l (tbs l m)=0:=by
 refine quK.2 ⟨vt.1 h,?_,qln _ _ _ _ (by omega) (.inl rfl),?_⟩
 ·grind [qos]
 ·have:=qiV (l.map (hasB m)) true 0 (by omega)
  grind [tbs]
theorem qxx {l m:qD0}(h:gkc l=0):cpy l (tbs l m)=(l.filter (hasB m),0):=by
 rw[quM (qxv h),qzH]
theorem qyq {l m:qD0}(h:gkc l=0)(hs:m.Sublist l):gkc m=0:=by
 grind [vt,qn6,qb1,qjV]
theorem qla {l:qD0}(h:gkc l=0):l.Pairwise (·<·):=(qb1 (vt.1 h).2).1
theorem qpo {l:qD0}{x:Int}:hasB l x=true↔x∈l:=by unfold hasB;simp
theorem qvN {a:qD0}(ha:gkc a=0)(hb:gkc b=0):a.filter (hasB b)=b.filter (hasB a):=by
 refine qv0 ((qla ha).sublist (qC6 ..)) ((qla hb).sublist (qC6 ..)) fun z=>?_
 rw[qCf,qCf,qpo,qpo]
 grind
theorem qtv (p:Int→Bool)(l:qD0):(l.filter p++l.filter fun x=>!p x).Perm l:=by
 induction l with
 | nil=>exact qBM _
 | cons x l ih =>
  rw[qC3,qC3]
  cases p x
  ·simp only[qBy,if_false,qDv,if_true]
   exact qCn.trans (ih.cons x)
  ·simp only[if_true,qCe,qBy,if_false]
   exact ih.cons x
structure Rep (l:qD0) (f:Bool) (S:qD0):Prop where
 bit:Bit l
 len:l.length≤8192
 ok:f=false→l=S
 full:f=true→8192<S.length
def Wr (m:Option (Int×qD0×Bool))(S:qD0):Prop:=∃ l f,m=some ((l.length:Int),pk l,f)∧Rep l f S
theorem qyb:Rep [] false []:=⟨by intro x hx;grind,by simp,fun _=>rfl,by simp⟩
theorem qv8 {l:qD0}(h:Rep l f S){k:qD0}(hk:8192<(S++k).length):Rep l true (S++k):=⟨h.bit,h.len,by simp,fun _=>hk⟩
theorem qoC (hF:20000≤F){l k:qD0}(h:Rep l f S)(hk:Bit k)(hkm:k.length≤8192):Wr (vh F (l.length:Int) (pk l) f (k.length:Int) (pk k)) (S++k):=by
 have hl:=h.len
 unfold vh
 cases f with
 | true =>
  have:=h.full rfl
  refine ⟨l,true,by rfl,h.bit,h.len,by simp,fun _=>by grind⟩
 | false =>
  obtain rfl:=h.ok rfl
  rw[if_neg (by simp),qb0 (by omega)]
  unfold jy
  by_cases hb:8192<l.length+k.length
  ·rw[if_neg (by grind)]
   refine ⟨l,true,by grind,h.bit,h.len,by simp,fun _=>by simp_all⟩
  ·rw[if_pos (by grind),qrS hF h.bit hk h.len hkm]
   refine ⟨l++k,false,by grind,vi h.bit hk,by simp_all,fun _=>rfl,by simp⟩
theorem qdH (hF:20000≤F){l:qD0}(h:Rep l f S){n:Int}(h0:0≤n)(hn:n≤1099511627776):Wr (q7 F (l.length:Int) (pk l) f n) (S++ga n.toNat):=by
 obtain ⟨m,rfl⟩:=qBm h0
 unfold q7
 rw[vu (by omega),qkb hF (by omega)]
 simp only[qBi,qBo]
 obtain ⟨l',f',e,h'⟩:=qoC hF h (qir m) (by grind [qy5])
 rw[e]
 exact ⟨l',f',rfl,h'⟩
theorem qlU {m:Option (Int×qD0×Bool)}{T:qD0}(h:Wr m S)(e:S=T):Wr m T:=e▸h
def encBs:Bool→qD0→qD0
 | _,[]=>[]
 | b,n::bs=>ga (n-if b then 1 else 0).toNat++encBs true bs
def encB (bs:qD0):qD0:=ga bs.length++encBs false bs
theorem qvk (i:Nat):imin (i:Int) 1=if 0<i then 1 else 0:=by
 grind [imin]
theorem qm7 {F:Nat}(hF:20000≤F){bs:qD0}(hm:bs.length≤1000):∀ (k i:Nat) (l:qD0) (f:Bool) (S:qD0),bs.length<k+i→i≤bs.length→Rep l f S→okB (!decide (0<i)) (bs.drop i)=true→(∀ n∈bs,n≤1000000) →
  Wr (j9 F bs k ((i:Int),(l.length:Int),pk l,f)) (S++encBs (decide (0<i)) (bs.drop i))
 | 0,_,_,_,_,_,_,_,_,_=>by omega
 | k+1,i,l,f,S,h,hi,hr,hok,hb=>by
  show Wr (j8 F bs (j9 F bs k) (i:Int) (l.length:Int) (pk l) f) _
  unfold j8
  by_cases hlt:i<bs.length
  ·rw[qBq hlt,qhq] at hok
   simp only[qB6,qCK,decide_eq_true_eq,qCL,decide_eq_false_iff_not] at hok
   have hn:=hb bs[i] (qBE hlt)
   rw[if_pos (by simp_all),qo,qBk hlt,qBq hlt,qvk]
   simp only[qBi]
   have e1:isub .i64 bs[i] (if 0<i then 1 else 0)=bs[i]-(if decide (0<i)=true then 1 else 0):=by
    grind [zN]
   rw[e1]
   obtain ⟨l',f',e,h'⟩:=qdH hF hr (n:=bs[i]-(if decide (0<i)=true then 1 else 0)) (by grind) (by omega)
   rw[e]
   simp only[qBi]
   rw[qu (by omega)]
   refine qlU (qm7 hF hm k (i+1) l' f' _ (by omega) (by omega) h' (by simp_all) hb) ?_
   grind [encBs]
  ·rw[if_neg (by simp_all),qBu (by omega)]
   exact ⟨l,f,rfl,by simpa[encBs] using hr⟩
theorem qrD (hF:20000≤F){bs l:qD0}(hm:bs.length≤1000)(hr:Rep l f S)(hok:okB true bs=true)(hb:∀ n∈bs,n≤1000000):Wr (jz F (l.length:Int) (pk l) f bs) (S++encB bs):=by
 unfold jz
 obtain ⟨l',f',e,h'⟩:=qdH hF hr (n:=(bs.length:Int)) (by omega) (by omega)
 rw[e]
 simp only[qBi]
 refine qlU (qm7 hF hm F 0 l' f' _ (by omega) (by omega) h' (by simp_all) hb) ?_
 simp[encB]
def encRs (least:Int):Bool→Int→List (Int×Int)→qD0
 | _,_,[]=>[]
 | b,a,r::R=>ga (if b then r.1-a-2 else foldOf (r.1-a)).toNat++(ga (r.2-least).toNat++encRs least true (r.1+r.2-1) R)
def encR (least node:Int)(R:List (Int×Int)):qD0:=ga R.length++encRs least false node R
theorem qk8 {x:Int}(h:-2000000≤x∧x≤2000000):0≤foldOf x∧foldOf x≤4000001:=by grind [foldOf]
theorem qtb {F:Nat}(hF:20000≤F){R:List (Int×Int)}{least:Int}(hm:R.length≤300)(hR:∀ r∈R,RunOk r∧least≤r.2)(hle:0≤least):∀ (k i:Nat) (a:Int) (l:qD0) (f:Bool) (S:qD0),R.length<k+i→i≤R.length→Rep l f S→Nd a→(∃ q,Sep q (R.drop i)∧(0<i→a+1≤q)) →
  Wr (yK F least R k (a,(i:Int),(l.length:Int),pk l,f)) (S++encRs least (decide (0<i)) a (R.drop i))
 | 0,_,_,_,_,_,_,_,_,_,_=>by omega
 | k+1,i,a,l,f,S,h,hi,hr,ha,hs=>by
  show Wr (qa8 F least R (yK F least R k) a (i:Int) (l.length:Int) (pk l) f) _
  unfold qa8
  by_cases hlt:i<R.length
  ·obtain ⟨hro,hrl⟩:=hR R[i] (qBE hlt)
   unfold RunOk at hro
   unfold Nd at ha
   rw[if_pos (by simp_all),qo,qBk hlt,qBq hlt]
   simp only[qBi]
   have hj:∀ {l':qD0} {f':Bool} {S':qD0},Rep l' f' S'→S'=S++ga (if decide (0<i)=true then R[i].1-a-2 else foldOf (R[i].1-a)).toNat→Sep (R[i].1+R[i].2) (R.drop (i+1)) →
     Wr (yJ F (yK F least R k) least (i:Int) R[i] (l'.length:Int) (pk l') f') (S++encRs least (decide (0<i)) a (R[i]::R.drop (i+1))):=by
    intro l' f' S' hr' hS hsep
    unfold yJ
    rw[zN (by omega) (by omega)]
    obtain ⟨l2,f2,e,h2⟩:=qdH hF hr' (n:=R[i].2-least) (by omega) (by omega)
    rw[e]
    simp only[qBi]
    rw[qlh (by omega) (by omega),qu (by omega)]
    refine qlU (qtb hF hm hR hle k (i+1) (R[i].1+R[i].2-1) l2 f2 _ (by omega) (by omega) h2 (by unfold Nd;omega) ⟨_,hsep,fun _=>by omega⟩) ?_
    grind [encRs]
   obtain ⟨q,hsp,hq⟩:=hs
   rw[qBq hlt] at hsp
   obtain ⟨h1,h2,h3⟩:=hsp
   by_cases h0:0<i
   ·have hq':=hq h0
    have e3:isub .i64 R[i].1 a=R[i].1-a:=zN (by omega) (by omega)
    rw[if_neg (by grind),e3,zN (by omega) (by omega)]
    obtain ⟨l',f',e,h'⟩:=qdH hF hr (n:=R[i].1-a-2) (by omega) (by omega)
    grind
   ·obtain rfl:i=0:=by omega
    have hf:=qk8 (x:=R[0].1-a) (by omega)
    rw[if_pos (by simp),zN (by omega) (by omega),qr6 F (by omega) (by omega)]
    simp only[qBi]
    rw[show iconv .i64 (foldOf (R[0].1-a))=foldOf (R[0].1-a) from yb (by omega) (by omega)]
    obtain ⟨l',f',e,h'⟩:=qdH hF hr (n:=foldOf (R[0].1-a)) (by omega) (by omega)
    grind
  ·rw[if_neg (by simp_all),qBu (by omega)]
   exact ⟨l,f,rfl,by simpa[encRs] using hr⟩
theorem qxa (hF:20000≤F){least q:Int}{l:qD0}(hm:R.length≤300)(hR:∀ r∈R,RunOk r∧least≤r.2)(hle:0≤least)(hr:Rep l f S)(hn:Nd node)(hs:Sep q R) :
  Wr (qaF F (l.length:Int) (pk l) f node least R) (S++encR least node R):=by
 unfold qaF
 obtain ⟨l',f',e,h'⟩:=qdH hF hr (n:=(R.length:Int)) (by omega) (by omega)
 rw[e]
 simp only[qBi]
 refine qlU (qtb hF hm hR hle F 0 node l' f' _ (by omega) (by omega) h' hn ⟨q,by grind,by omega⟩) ?_
 simp[encR]
theorem qnS:∀ {bs:qD0} {f:Bool},okB f bs=true→∀ n∈bs,n≤bsum bs
 | [],_,_,n,h=>by grind
 | x::bs,f,h,n,hn=>by
  rw[qhq] at h
  simp only[qB6] at h
  have h0:=qn0 h.2
  have hx:0≤x:=by simp_all
  have hb:bsum (x::bs)=x+bsum bs:=rfl
  rcases qBp.1 hn with rfl | hn
  ·omega
  ·have:=qnS h.2 n hn;omega
def encO (rest:qD0)(least:Int):List (Int×Int):=if 0<least then spO least (rs rest) else []
def encS (rest:qD0)(least:Int):qD0:=if 0<least then flat (spS least (rs rest)) else rest
def encL (node:Int)(rest:qD0)(least:Int)(k:Nat):qD0 :=
 if rest=[] then [] else (if 0<least then encR least node (encO rest least) else [])++zes k (gp false node (encS rest least))
def rstO (l fr:qD0)(back:Int):qD0:=if 0<back then rst fr l else l
def enc (node:Int)(l fr:qD0)(back least:Int)(k:Nat):qD0 :=
 ga l.length++if l=[] then [] else (if 0<back then encB (tbs fr l) else [])++encL node (rstO l fr back) least k
theorem qx7 (hF:200000≤F){a l:qD0}(ha:gkc a=0)(hl:gkc l=0):qfA F a l=some (tbs a l,rst a l):=by
 obtain ⟨h1,h2⟩:=vt.1 ha
 obtain ⟨h3,h4⟩:=vt.1 hl
 have:=qq9 hF (qb1 h2).1 (qb1 h4).1 h1 h3 F 0 [] true 0 (by omega) (by omega) (by simp) (by omega)
 rw[qB1,qBF] at this
 unfold qfA
 rw[show ((0:Nat):Int)=0 from rfl] at this
 rw[this]
 rfl
theorem qqd (hF:20000≤F)(h1:1≤k)(h2:k≤16){l:qD0}{q:Int}(hr:Rep l f S)(hn:Nd node)(hm:rest.length≤300)(hs:Ris q rest) :
  Wr (yI F node (k:Int) rest (l.length:Int) (pk l) f) (S++zes k (gp false node rest)):=by
 unfold yI
 have h40:L40 (gp false node rest):=fun x hx=>by have:=qvh hn hs (by simp) x hx;omega
 have hp:=qxN (F:=F) (l:=[]) hF h1 h2 h40 (by rw[qqM];omega) (by intro x hx;grind) (by simp)
 simp only[qBF,qCw] at hp
 rw[qxO hF hm hn hs]
 simp only[qBi]
 rw[show qe9 F 0 ([]:qD0) (gp false node rest) (k:Int)=_ from hp]
 simp only[qBi]
 unfold qa7
 by_cases hb:(zes k (gp false node rest)).length≤8192
 ·rw[if_pos hb]
  simp only[qCe,Bool.or_false]
  obtain ⟨l',f',e,h'⟩:=qoC hF hr (qtc k _) hb
  rw[e]
  exact ⟨l',f',rfl,h'⟩
 ·rw[if_neg hb]
  simp only[qDv,Bool.or_true]
  have hr':=qv8 hr (k:=zes k (gp false node rest)) (by grind)
  obtain ⟨l',f',e,h'⟩:=qoC hF hr' (k:=[]) (by intro x hx;grind) (by simp)
  have e':vh F (l.length:Int) (pk l) true 0 []=some ((l'.length:Int),pk l',f'):=e
  rw[e']
  exact ⟨l',f',rfl,by grind⟩
theorem qm9 (hF:2000000≤F)(h1:1≤k)(h2:k≤16){l:qD0}{least:Int}(hr:Rep l f S)(hn:Nd node)(hg:gkc rest=0)(_hle:least=0∨2≤least∧least≤300) :
  Wr (yH F node least (k:Int) rest (l.length:Int) (pk l) f) (S++encL node rest least k):=by
 obtain ⟨hm,hs⟩:=vt.1 hg
 unfold yH encL encO encS
 by_cases h0:rest=[]
 ·subst h0
  exact ⟨l,f,rfl,by grind⟩
 ·have hlen:rest.length≠0:=by grind
  rw[if_neg (by simp_all),if_neg h0]
  by_cases hl:0<least
  ·rw[if_pos (by grind),if_pos hl,if_pos hl,if_pos hl,qra hF hm hs]
   simp only[qBi]
   obtain ⟨s1,s2⟩:=qyl (least:=least) hm hs
   obtain ⟨r1,r2⟩:=qwh hm hs
   obtain ⟨l',f',e,h'⟩:=qxa (F:=F) (R:=spO least (rs rest)) (least:=least) (node:=node) (q:=-1) (by omega) s1 (fun r hr=>⟨r2 r (qCf.1 hr).1,by simpa using (qCf.1 hr).2⟩) (by omega) hr hn (qgR _ r1)
   rw[e]
   simp only[qBi]
   refine qlU (qqd (by omega) h1 h2 h' hn s2 (qoe hs _)) ?_
   simp
  grind [qqd]
theorem qsT {a l:qD0}(h:gkc l=0):gkc (rst a l)=0:=qyq h qC6
theorem qqf (hF:2000000≤F)(h1:1≤k)(h2:k≤16){fr:qD0}{least:Int}(hn:Nd node)(hg:gkc x=0)(hfr:0<back→gkc fr=0)(hle:least=0∨2≤least∧least≤300) :
  Wr (vK F 0 [] false node x fr back least (k:Int)) (enc node x fr back least k):=by
 obtain ⟨hm,hs⟩:=vt.1 hg
 unfold vK enc rstO
 obtain ⟨l,f,e,hr⟩:=qdH (F:=F) (by omega) qyb (n:=(x.length:Int)) (by omega) (by omega)
 rw[show q7 F 0 ([]:qD0) false (x.length:Int)=_ from e]
 simp only[qBi,qBF,qBo] at hr ⊢
 by_cases h0:x=[]
 ·subst h0
  rw[if_pos (by simp),if_pos rfl]
  exact ⟨l,f,rfl,by grind⟩
 ·rw[if_neg (by simpa using h0),if_neg h0]
  by_cases hb:0<back
  ·have hfg:=hfr hb
   have hfl:=(vt.1 hfg).1
   rw[if_pos (by grind),if_pos hb,if_pos hb,qx7 (by omega) hfg hg]
   simp only[qBi]
   have htl:=qos fr x
   have hok:okB true (tbs fr x)=true:=qln _ _ _ _ (by omega) (Or.inl rfl)
   have hsum:bsum (tbs fr x)≤0+(fr.map (hasB x)).length:=qiV _ _ _ (by omega)
   rw[qBJ] at hsum
   have hbd:∀ n∈tbs fr x,n≤1000000:=fun n hnm=>by
    have:=qnS hok n hnm
    omega
   obtain ⟨l',f',e',h'⟩:=qrD (F:=F) (bs:=tbs fr x) (by omega) (by omega) hr hok hbd
   grind [qm9,qsT]
  grind [qm9]
def rgam (l:qD0)(p:Nat)(most:Int):Option (Int×Nat):=if (fg l p).2.2=0∧(fg l p).1≤most then some ((fg l p).1,(fg l p).2.1.toNat) else none
def Rd {α:Type}(l:qD0)(m:Option ((α×Int×Int) ⊕ (Int×Int)))(o:Option (α×Nat)):Prop :=
 match o with
 | none=>∃ z,m=some (.inr z)
 | some x=>m=some (.inl (x.1,(l.length:Int),(x.2:Int)))
theorem qaH {l:qD0}{x:Int×Nat}(h:rgam l p most=some x):0≤x.1∧x.1≤most∧x.1≤1099511627776∧x.2≤l.length:=by
 grind [rgam,qu4]
theorem qz1:yu F true=some (.inl ()):=rfl
theorem qvA:yu F false=some (.inr ()):=rfl
theorem qhE (hF:20000≤F){l:qD0}(hl:Bit l)(hm:l.length≤8192)(hp:p≤l.length)(h0:0≤most)(h1:most≤1000000000):Rd l (zI F (l.length:Int) (pk l) (p:Int) most) (rgam l p most):=by
 obtain ⟨mo,rfl⟩:=qBm h0
 unfold zI rgam
 rw[qi2 hF hl hm hp]
 simp only[qBi]
 rw[vu (by omega)]
 rcases qu4 (l:=l) (a:=p) with h2 | ⟨n,q,h2,h3,h4⟩
 ·rw[if_neg (fun h=>h2 h.1),show ((fg l p).2.2 == 0 && decide ((fg l p).1≤(mo:Int)))=false from by grind,qvA]
  exact ⟨_,rfl⟩
 ·rw[h2]
  simp only[true_and,beq_self_eq_true,Bool.true_and]
  by_cases hc:(n:Int)≤mo
  ·rw[if_pos hc,decide_eq_true hc,qz1]
   show _=_
   grind [lbnd,qeb]
  ·rw[if_neg hc,decide_eq_false hc,qvA]
   exact ⟨_,rfl⟩
theorem qfD {β:Type}{l:qD0}{m:Option ((α×Int×Int) ⊕ (Int×Int))}{o:Option (α×Nat)}{k:α×Int×Int→Option ((β×Int×Int) ⊕ (Int×Int))}{kl:Int×Int→Option ((β×Int×Int) ⊕ (Int×Int))}{g:α×Nat→Option (β×Nat)}(h:Rd l m o)(hk:∀ x,o=some x→Rd l (k (x.1,(l.length:Int),(x.2:Int))) (g x))(hkl:∀ z,∃ z',kl z=some (.inr z')):Rd l (lbnd m k kl) (o.bind g):=by
 cases o with
 | none =>
  obtain ⟨z,h⟩:=h
  rw[h]
  exact hkl z
 | some x =>
  have h':m=some (.inl (x.1,(l.length:Int),(x.2:Int))):=h
  rw[h']
  exact hk x rfl
def rbl (l:qD0)(many:Int):Nat→Bool→Nat→Option (qD0×Nat)
 | 0,_,p=>some ([],p)
 | k+1,b,p=>(rgam l p many).bind fun g=>(rbl l many k true g.2).bind fun r=>some ((g.1+if b then 1 else 0)::r.1,r.2)
def rblk (l:qD0)(p:Nat)(many:Int):Option (qD0×Nat):=(rgam l p (many+1)).bind fun g=>rbl l many g.1.toNat false g.2
theorem qsE {l:qD0}{many:Int}:∀ {k:Nat} {b:Bool} {p:Nat} {r:qD0×Nat},p≤l.length→rbl l many k b p=some r→r.1.length=k∧r.2≤l.length
 | 0,_,p,r,hp,h=>by simp only[rbl,qBs] at h;grind
 | k+1,b,p,r,hp,h=>by
  simp only[rbl,qBR,qBs] at h
  obtain ⟨g,h1,r',h2,rfl⟩:=h
  have h3:=qsE (qaH h1).2.2.2 h2
  simp_all
theorem qsm {lim n:Nat}{y:α}(h:n≤lim):mk lim y (n:Int)=some (qBj n y):=by
 grind [mk]
theorem qwp {o r:List α}{x y:α}:(o++x::r).set o.length y=o++y::r:=by
 simp
theorem qnO {o r:List α}{x:α}:idx (o++x::r) (o.length:Int)=some x:=by
 rw[qo];simp
theorem qmT {F:Nat}(hF:20000≤F){l:qD0}(hl:Bit l)(hm:l.length≤8192){many:Int}(h0:0≤many)(h1:many≤1000000){w:qD0}(hw:w.length≤1000000):∀ (k:Nat) (o:qD0) (p:Nat),w.length<k+o.length→o.length≤w.length→p≤l.length →
  Rd l (j7 F (pk l) many w k (o++qBj (w.length-o.length) 0,(o.length:Int),(l.length:Int),(p:Int)))
   ((rbl l many (w.length-o.length) (decide (0<o.length)) p).map fun r=>(o++r.1,r.2))
 | 0,_,_,_,_,_=>by omega
 | k+1,o,p,h,ho,hp=>by
  show Rd l (j6 F (pk l) many w (j7 F (pk l) many w k) (o++qBj (w.length-o.length) 0) (o.length:Int) (l.length:Int) (p:Int)) _
  unfold j6
  by_cases hlt:o.length<w.length
  ·rw[if_pos (by simp_all)]
   obtain ⟨d,hd⟩:∃ d,w.length-o.length=d+1:=⟨w.length-o.length-1,by omega⟩
   rw[hd]
   unfold rbl
   rw[qCq,qDQ]
   refine qfD (qhE hF hl hm hp h0 (by omega)) (fun g hg=>?_) (fun z=>⟨_,rfl⟩)
   have hok:=qaH hg
   rw[qnO,qBo,qwp]
   simp only[qBi,lett,Function.comp]
   rw[qvk,zb (by omega) (by omega),qu (by omega)]
   have e:w.length-(o++[g.1+if 0<o.length then 1 else 0]).length=d:=by grind
   have:=qmT hF hl hm h0 h1 hw k (o++[g.1+if 0<o.length then 1 else 0]) g.2 (by omega) (by grind) hok.2.2.2
   rw[e] at this
   simp only[qBt,List.singleton_append,qBr,qCY] at this
   rw[show decide (0<o.length+1)=true from by simp] at this
   have h9:((rbl l many d true g.2).bind fun r=>some ((g.1+if decide (0<o.length)=true then 1 else 0)::r.1,r.2)).map (fun r=>(o++r.1,r.2))=(rbl l many d true g.2).map fun r=>(o++(g.1+if 0<o.length then 1 else 0)::r.1,r.2):=by
    cases rbl l many d true g.2 <;> simp
   simp_all
  ·rw[if_neg (by simp_all),show w.length-o.length=0 from by omega]
   rfl
theorem qpI (hF:20000≤F){l:qD0}(hl:Bit l)(hm:l.length≤8192)(h0:0≤many)(h1:many≤1000)(hp:p≤l.length):Rd l (jx F (l.length:Int) (pk l) (p:Int) many) (rblk l p many):=by
 unfold jx rblk
 rw[zb (by omega) (by omega)]
 refine qfD (qhE hF hl hm hp (by omega) (by omega)) (fun g hg=>?_) (fun z=>⟨_,rfl⟩)
 have hok:=qaH hg
 obtain ⟨n,hn⟩:=qBm hok.1
 rw[hn,qsm (by omega)]
 simp only[qBi,qBo]
 have:=qmT hF hl hm h0 (by omega) (w:=qBj n 0) (by grind) F [] g.2 (by grind) (by simp) hok.2.2.2
 simp_all
theorem qh0 {xs:List (qD0)}{i:Nat}(h:xs[i]?=some x):(xs.drop i).flatten=x++(xs.drop (i+1)).flatten:=by
 grind [qBq]
theorem qmy {F:Nat}{xs:List (qD0)}(hm:xs.length≤1000):∀ (k i:Nat) (o:qD0),xs.length<k+i→i≤xs.length→o.length+(xs.drop i).flatten.length≤1000000 →
  zL F xs k (o,(i:Int))=some (o++(xs.drop i).flatten)
 | 0,_,_,_,_,_=>by omega
 | k+1,i,o,h,hi,ho=>by
  show qN F xs (zL F xs k) o (i:Int)=_
  unfold qN
  by_cases hlt:i<xs.length
  ·have hg:=qBk hlt
   have hf:=qh0 hg
   rw[hf,qBr] at ho
   rw[if_pos (by simp_all),qo,hg,hf]
   simp only[qBi]
   rw[kG (by omega),qu (by omega)]
   simp only[qBi]
   rw[qmy hm k (i+1) _ (by omega) (by omega) (by grind),qBt]
  grind [vE]
theorem qmz {F:Nat}(hF:20000≤F){xs:List (qD0)}(hm:xs.length≤1000)(ht:xs.flatten.length≤1000000):∀ (k i n:Nat),xs.length<k+i→i≤xs.length→n+(xs.drop i).flatten.length=xs.flatten.length →
  zM F xs k ((n:Int),(i:Int))=some xs.flatten
 | 0,_,_,_,_,_=>by omega
 | k+1,i,n,h,hi,hn=>by
  show qO F xs (zM F xs k) (n:Int) (i:Int)=_
  unfold qO
  by_cases hlt:i<xs.length
  ·have hg:=qBk hlt
   have hf:=qh0 hg
   rw[hf,qBr] at hn
   rw[if_pos (by simp_all),qo,hg]
   simp only[qBi]
   rw[qb0 (by omega),if_neg (by grind),qu (by omega)]
   exact qmz hF hm ht k (i+1) _ (by omega) (by omega) (by omega)
  ·rw[if_neg (by simp_all)]
   rw[qBu (by omega)] at hn
   simp only[List.flatten_nil,qCw] at hn
   unfold kx
   rw[qsd (by omega)]
   simp only[qBi]
   have:=qmy (F:=F) hm F 0 [] (by omega) (by omega) (by grind)
   simp_all
theorem qqE (hF:20000≤F){a c:qD0}(h:a.length+(b.length+c.length)≤1000000):zK F [a,b,c]=some (a++(b++c)):=by
 have:=qmz (F:=F) hF (xs:=[a,b,c]) (by simp) (by grind) F 0 0 (by grind) (by simp) (by simp)
 simp only[List.flatten_cons,List.flatten_nil,qBV] at this
 exact this
theorem qyi {a:qD0}(h:a.length≤1000000):q5 F a=some (srt a):=by
 grind [q5]
def rrn (l:qD0)(least many:Int):Nat→Bool→Int→Nat→Option (List (Int×Int)×Nat)
 | 0,_,_,p=>some ([],p)
 | k+1,b,a,p=>(rgam l p 2097152).bind fun g=>(rgam l g.2 many).bind fun x =>
   (rrn l least many k true (a+(if b then g.1+2 else kR g.1)+(x.1+least)-1) x.2).bind fun r=>some ((a+(if b then g.1+2 else kR g.1),x.1+least)::r.1,r.2)
def rrns (l:qD0)(p:Nat)(node least many:Int):Option (List (Int×Int)×Nat):=(rgam l p (many/least)).bind fun g=>rrn l least many g.1.toNat false node g.2
theorem qn9 {l:qD0}{least many:Int}:∀ {k:Nat} {b:Bool} {a:Int} {p:Nat} {r:List (Int×Int)×Nat},p≤l.length→rrn l least many k b a p=some r→r.1.length=k∧r.2≤l.length
 | 0,_,_,p,r,hp,h=>by simp only[rrn,qBs] at h;grind
 | k+1,b,a,p,r,hp,h=>by
  simp only[rrn,qBR,qBs] at h
  obtain ⟨g,h1,x,h2,r',h3,rfl⟩:=h
  have h4:=qn9 (qaH h2).2.2.2 h3
  simp_all
theorem qoy {g:Int}(h0:0≤g)(h:g≤2097152):-1048577≤kR g∧kR g≤1048576:=by grind [kR]
theorem qsR {F:Nat}(hF:20000≤F){l:qD0}(hl:Bit l)(hm:l.length≤8192){least many:Int}(h0:0≤many)(h1:many≤300)(h2:2≤least)(h3:least≤300){w:List (Int×Int)}(hw:w.length≤1000):∀ (k:Nat) (o:List (Int×Int)) (a:Int) (p:Nat),w.length<k+o.length→o.length≤w.length→p≤l.length→(-3000000*((o.length:Int)+1)≤a∧a≤3000000*((o.length:Int)+1)) →
  Rd l (yo F (pk l) least many w k (o++qBj (w.length-o.length) (0,0),a,(o.length:Int),(l.length:Int),(p:Int)))
   ((rrn l least many (w.length-o.length) (decide (0<o.length)) a p).map fun r=>(o++r.1,r.2))
 | 0,_,_,_,_,_,_,_=>by omega
 | k+1,o,a,p,h,ho,hp,ha=>by
  show Rd l (qaE F (pk l) least many w (yo F (pk l) least many w k) (o++qBj (w.length-o.length) (0,0)) a (o.length:Int) (l.length:Int) (p:Int)) _
  unfold qaE
  by_cases hlt:o.length<w.length
  ·rw[if_pos (by simp_all)]
   obtain ⟨d,hd⟩:∃ d,w.length-o.length=d+1:=⟨w.length-o.length-1,by omega⟩
   rw[hd]
   unfold rrn
   rw[qCq,qDQ]
   refine qfD (qhE hF hl hm hp (by omega) (by omega)) (fun g hg=>?_) (fun z=>⟨_,rfl⟩)
   have hok:=qaH hg
   have hun:=qoy hok.1 hok.2.1
   have hj:∀ (s:Int),s=a+(if decide (0<o.length)=true then g.1+2 else kR g.1) →
     Rd l (yn F (yo F (pk l) least many w k) (pk l) least many (o++(0,0)::qBj d (0,0)) (o.length:Int) (g.1,(l.length:Int),(g.2:Int)) s)
      (Option.map (fun r=>(o++r.1,r.2)) ((rgam l g.2 many).bind fun x=>(rrn l least many d true (a+(if decide (0<o.length)=true then g.1+2 else kR g.1)+(x.1+least)-1) x.2).bind fun r=>some ((a+(if decide (0<o.length)=true then g.1+2 else kR g.1),x.1+least)::r.1,r.2))):=by
    intro s hs
    rw[← hs]
    have hsb:-3000000*((o.length:Int)+1)-1048577≤s∧s≤3000000*((o.length:Int)+1)+2097154:=by omega
    unfold yn
    rw[qDQ]
    refine qfD (qhE hF hl hm hok.2.2.2 h0 (by omega)) (fun x hx=>?_) (fun z=>⟨_,rfl⟩)
    have hox:=qaH hx
    rw[qnO,qBo,qwp]
    simp only[qBi,lett,Function.comp]
    rw[qnO,zb (by omega) (by omega)]
    simp only[qBi]
    have e1:isub .i64 (x.1+least) 1=x.1+least-1:=zN (by omega) (by omega)
    rw[e1,zb (by omega) (by omega),qu (by omega)]
    have e:w.length-(o++[(s,x.1+least)]).length=d:=by grind
    have:=qsR hF hl hm h0 h1 h2 h3 hw k (o++[(s,x.1+least)]) (s+(x.1+least)-1) x.2 (by omega) (by grind) hox.2.2.2 (by omega)
    rw[e] at this
    simp only[qBt,List.singleton_append,qBr,qCY] at this
    rw[show decide (0<o.length+1)=true from by simp] at this
    have h9:((rrn l least many d true (s+(x.1+least)-1) x.2).bind fun r=>some ((s,x.1+least)::r.1,r.2)).map (fun r=>(o++r.1,r.2))=(rrn l least many d true (s+(x.1+least)-1) x.2).map fun r=>(o++(s,x.1+least)::r.1,r.2):=by
     cases rrn l least many d true (s+(x.1+least)-1) x.2 <;> simp
    grind
   simp only[Function.comp]
   by_cases hz:0<o.length
   ·rw[if_neg (by grind)]
    have e1:iadd .i64 g.1 2=g.1+2:=zb (by omega) (by omega)
    grind [zb]
   grind [qBm,vu,qm6,zb]
  ·rw[if_neg (by simp_all),show w.length-o.length=0 from by omega]
   rfl
theorem qtR (hF:20000≤F){l:qD0}(hl:Bit l)(hm:l.length≤8192){least:Int}(h0:0≤many)(h1:many≤300)(h2:2≤least)(h3:least≤300)(hn:Nd node)(hp:p≤l.length) :
  Rd l (qaD F (l.length:Int) (pk l) (p:Int) node least many) (rrns l p node least many):=by
 unfold qaD rrns
 unfold Nd at hn
 have hq:iquo .i64 many least=many/least:=by
  obtain ⟨m,rfl⟩:=qBm h0
  obtain ⟨c,rfl⟩:=qBm (show 0≤least by omega)
  unfold iquo
  rw[Int.tdiv_eq_ediv_of_nonneg (by omega)]
  have h5:(m:Int)/(c:Int)≤m:=qDl _ (by omega)
  grind [yb]
 have hd0:0≤many/least:=Int.ediv_nonneg h0 (by omega)
 have hd1:many/least≤many:=qDl _ h0
 have hc:∀ {ρ:Type} (m:Option ρ),chk (least != 0) m=m:=fun m=>by grind [chk]
 rw[hq,hc]
 refine qfD (qhE hF hl hm hp hd0 (by omega)) (fun g hg=>?_) (fun z=>⟨_,rfl⟩)
 have hok:=qaH hg
 obtain ⟨n,hn'⟩:=qBm hok.1
 rw[hn',qsm (by omega)]
 simp only[qBi,qBo]
 have:=qsR hF hl hm h0 h1 h2 h3 (w:=qBj n (0,0)) (by grind) F [] node g.2 (by grind) (by simp) hok.2.2.2 (by omega)
 simp_all
def rls2 (l:qD0)(node:Int)(k:Nat)(many:Int)(out:qD0)(R:List (Int×Int))(p:Nat):Option (qD0×Nat) :=
 if (rm R []).2=0∧((rm R []).1.length:Int)≤many-out.length then
  match gfr l k (many-out.length-(rm R []).1.length).toNat false node p with
  | .inl _=>none
  | .inr g=>some (srt (out++((rm R []).1++g.1)),g.2)
 else none
def rls1 (l:qD0)(node least:Int)(k:Nat)(many:Int)(out:qD0)(p:Nat):Option (qD0×Nat) :=
 if many-out.length=0 then some (out,p) else
 if 0<least then (rrns l p node least (many-out.length)).bind fun r=>rls2 l node k many out r.1 r.2 else rls2 l node k many out [] p
def rls (l:qD0)(p:Nat)(node:Int)(fr:qD0)(back least:Int)(k:Nat):Option (qD0×Nat) :=
 (rgam l p 300).bind fun m=>if m.1=0 then some ([],m.2) else
  if 0<back then (rblk l m.2 fr.length).bind fun b=>if (cpy fr b.1).2=0∧((cpy fr b.1).1.length:Int)≤m.1 then rls1 l node least k m.1 (cpy fr b.1).1 b.2 else none
  else rls1 l node least k m.1 [] m.2
theorem qvp {σ ρ:Type}(y:α)(k:α→Option ρ)(kl:σ→Option ρ):lbnd (some (.inl y)) k kl=k y:=rfl
theorem qgK {c:Bool}{ρ:Type}(k kl:Unit→Option ρ):lbnd (yu F c) k kl=if c then k () else kl ():=by cases c <;> rfl
theorem qvd {l:qD0}{k:Nat}:∀ {m:Nat} {b:Bool} {a:Int} {p:Nat} {e:Int},gfr l k m b a p=.inl e→e≠0
 | 0,_,_,_,_,h=>by simp[gfr] at h
 | m+1,b,a,p,e,h=>by
  unfold gfr at h
  split at h
  ·simp_all
  ·split at h
   ·grind
   ·split at h
    ·rename_i e' he;simp only[Sum.inl.injEq] at h;rw[← h];exact qvd he
    simp_all
theorem qvc {l:qD0}{k:Nat}(hl:Bit l)(hk:1≤k):∀ {m:Nat} {b:Bool} {a:Int} {p:Nat} {r:qD0×Nat},p≤l.length→gfr l k m b a p=.inr r→r.2≤l.length
 | 0,_,_,p,r,hp,h=>by grind [gfr]
 | m+1,b,a,p,r,hp,h=>by
  unfold gfr at h
  split at h
  ·grind
  ·rename_i h1
   split at h
   ·grind
   ·split at h
    ·grind
    ·rename_i r' hr
     simp only[Sum.inr.injEq] at h
     rcases qzp hl (k:=k) (p:=p) hk with h2 | ⟨g,q,h2,h3,h4⟩
     ·omega
     ·rw[h2] at hr
      rw[← h]
      exact qvc (r:=r') hl hk h4 hr
theorem qsM (hF:2000000≤F)(h1:1≤k)(h2:k≤16){l:qD0}(hl:Bit l)(hm:l.length≤8192)(hn:Nd node){out:qD0}(ho:(out.length:Int)≤many)(hmm:many≤300)(hp:p≤l.length){x:Int×Int×Int}(hx:x.1=many) :
  Rd l (yF F (pk l) node (k:Int) x out R (l.length:Int) (p:Int)) (rls2 l node k many out R p):=by
 unfold yF rls2
 rw[qvy (by omega),hx]
 simp only[qBi]
 have hlen:=qAf (R:=R) (rest:=[])
 have e1:isub .i64 many (out.length:Int)=many-out.length:=zN (by omega) (by omega)
 rw[qgK,e1]
 by_cases hc:(rm R []).2=0∧((rm R []).1.length:Int)≤many-out.length
 ·have e2:isub .i64 (many-(out.length:Int)) ((rm R []).1.length:Int)=((many-out.length-(rm R []).1.length).toNat:Int):=by grind [zN]
  rw[if_pos (by grind),if_pos hc,e2,qve (by omega) hl hm h1 h2 (by omega) hp hn]
  simp only[qBi]
  rw[qgK]
  cases hg:gfr l k (many-out.length-(rm R []).1.length).toNat false node p with
  | inl e =>
   have:=qvd hg
   rw[if_neg (show ¬ ((gfI [] (Sum.inl e:Int ⊕ (qD0×Nat))).2.2 == 0)=true by simpa[gfI] using this)]
   exact ⟨_,rfl⟩
  | inr g =>
   have hgl:=qsa hg
   rw[if_pos (show ((gfI [] (Sum.inr g:Int ⊕ (qD0×Nat))).2.2 == 0)=true by rfl),show (gfI [] (Sum.inr g:Int ⊕ (qD0×Nat))).1=g.1 from by rfl,qqE (by omega) (by omega)]
   simp only[qBi]
   rw[qyi (by grind)]
   simp only[qBi]
   have hch:∀ {ρ:Type} (q:Option ρ),chk (decide ((srt (out++((rm R []).1++g.1))).length=(out++((rm R []).1++g.1)).length)) q=q:=fun q=>by grind [chk,qhI]
   rw[hch]
   rfl
 ·rw[if_neg (by grind),if_neg hc]
  exact ⟨_,rfl⟩
theorem qsL (hF:2000000≤F)(h1:1≤k)(h2:k≤16){l:qD0}(hl:Bit l)(hm:l.length≤8192){least:Int}(hn:Nd node){out:qD0}(ho:(out.length:Int)≤many)(hmm:many≤300)(hp:p≤l.length){x:Int×Int×Int}(hx:x.1=many)(hle:least=0∨2≤least∧least≤300) :
  Rd l (yE F (pk l) node least (k:Int) x out (l.length:Int) (p:Int)) (rls1 l node least k many out p):=by
 unfold yE rls1
 have e1:isub .i64 x.1 (out.length:Int)=many-out.length:=by grind [zN]
 rw[e1]
 by_cases h0:many-out.length=0
 ·rw[if_pos (by grind),if_pos h0]
  rfl
 ·rw[if_neg (by grind),if_neg h0]
  by_cases hs:0<least
  ·rw[if_pos (by grind),if_pos hs]
   refine qfD (qtR (by omega) hl hm (by omega) (by omega) (by omega) (by omega) hn hp) (fun r hr=>?_) (fun z=>⟨_,rfl⟩)
   have hq:r.2≤l.length:=by
    unfold rrns at hr
    rw[qBR] at hr
    obtain ⟨g,hg,hr⟩:=hr
    exact (qn9 (qaH hg).2.2.2 hr).2
   grind [qsM]
  grind [qsM]
theorem qsF {l:qD0}{b:qD0×Nat}(h:rblk l p many=some b):b.2≤l.length:=by
 unfold rblk at h
 rw[qBR] at h
 obtain ⟨g,hg,h⟩:=h
 exact (qsE (qaH hg).2.2.2 h).2
theorem qAe (hF:2000000≤F)(h1:1≤k)(h2:k≤16){l:qD0}(hl:Bit l)(hm:l.length≤8192){least:Int}{fr:qD0}(hn:Nd node)(hp:p≤l.length)(hfr:0<back→gkc fr=0)(hle:least=0∨2≤least∧least≤300) :
  Rd l (vI F (l.length:Int) (pk l) (p:Int) node fr back least (k:Int)) (rls l p node fr back least k):=by
 unfold vI rls
 refine qfD (qhE (by omega) hl hm hp (by omega) (by omega)) (fun m hg=>?_) (fun z=>⟨_,rfl⟩)
 have hok:=qaH hg
 by_cases h0:m.1=0
 ·rw[if_pos (by grind),if_pos h0]
  rfl
 ·rw[if_neg (by grind),if_neg h0]
  by_cases hb:0<back
  ·have hfl:=(vt.1 (hfr hb)).1
   rw[if_pos (by grind),if_pos hb]
   refine qfD (qpI (by omega) hl hm (by omega) (by omega) hok.2.2.2) (fun b hbk=>?_) (fun z=>⟨_,rfl⟩)
   rw[qxt (by omega)]
   simp only[qBi]
   rw[qgK]
   by_cases hc:(cpy fr b.1).2=0∧((cpy fr b.1).1.length:Int)≤m.1
   ·rw[if_pos (by grind),if_pos hc]
    exact qsL hF h1 h2 hl hm hn hc.2 (by omega) (qsF hbk) rfl hle
   ·rw[if_neg (by grind),if_neg hc]
    exact ⟨_,rfl⟩
  ·rw[if_neg (by grind),if_neg hb]
   exact qsL hF h1 h2 hl hm hn (by simp_all) (by omega) hok.2.2.2 rfl hle
theorem qwc {l:qD0}{least:Int}{fr:qD0}{r:qD0×Nat}(hl:Bit l)(h1:1≤k)(h:rls l p node fr back least k=some r):r.2≤l.length:=by
 have h2:∀ {many:Int} {out:qD0} {R:List (Int×Int)} {q:Nat},q≤l.length→rls2 l node k many out R q=some r→r.2≤l.length:=by
  intro many out R q hq hr
  unfold rls2 at hr
  split at hr
  ·split at hr
   ·grind
   ·rename_i g hg
    simp only[qBs] at hr
    rw[← hr]
    exact qvc (r:=g) hl h1 hq hg
  simp_all
 have h3:∀ {many:Int} {out:qD0} {q:Nat},q≤l.length→rls1 l node least k many out q=some r→r.2≤l.length:=by
  intro many out q hq hr
  unfold rls1 at hr
  split at hr
  ·grind
  ·split at hr
   ·rw[qBR] at hr
    obtain ⟨r',hr1,hr2⟩:=hr
    refine h2 ?_ hr2
    unfold rrns at hr1
    rw[qBR] at hr1
    obtain ⟨g,hg,hr1⟩:=hr1
    exact (qn9 (qaH hg).2.2.2 hr1).2
   grind
 unfold rls at h
 rw[qBR] at h
 obtain ⟨m,hm,h⟩:=h
 split at h
 ·simp only[qBs] at h;rw[← h];exact (qaH hm).2.2.2
 ·split at h
  ·rw[qBR] at h
   obtain ⟨b,hb,h⟩:=h
   grind [qsF]
  ·exact h3 (qaH hm).2.2.2 h
def rdl (l:qD0)(p:Nat)(node:Int)(fr:qD0)(back least:Int)(k:Nat):Option (qD0×Nat) :=
 (rls l p node fr back least k).bind fun r=>if gkc r.1=0∧(enc node r.1 fr back least k).length≤8192∧p+(enc node r.1 fr back least k).length=r.2∧(l.drop p).take (enc node r.1 fr back least k).length=enc node r.1 fr back least k then some r else none
theorem qsW {F:Nat}{l e:qD0}(hl:Bit l)(hm:l.length≤8192)(he:Bit e)(hem:e.length≤8192){p:Nat}{x17:qD0×Int×Int}(h17:x17.2.1=(l.length:Int))(hpe:p+e.length≤l.length):∀ (k i:Nat),e.length<k+i→i≤e.length →
  (if (l.drop (p+i)).take (e.length-i)=e.drop i then yG F (pk l) (p:Int) x17 ((e.length:Int),pk e,false) k (i:Int)=some (x17.1,true,x17.2.1,x17.2.2)
   else ∃ a b,yG F (pk l) (p:Int) x17 ((e.length:Int),pk e,false) k (i:Int)=some ([],false,a,b))
 | 0,_,_,_=>by omega
 | k+1,i,h,hi=>by
  have hd:yG F (pk l) (p:Int) x17 ((e.length:Int),pk e,false) (k+1) (i:Int)=qa6 F (pk l) (p:Int) x17 ((e.length:Int),pk e,false) (yG F (pk l) (p:Int) x17 ((e.length:Int),pk e,false) k) (i:Int):=rfl
  rw[hd]
  unfold qa6
  by_cases hlt:i<e.length
  ·rw[if_pos (show decide ((i:Int)<(((e.length:Int),pk e,false):Int×qD0×Bool).1)=true by simp_all)]
   simp only
   rw[qoZ he (by omega) hlt,h17,qb0 (by omega),qoZ hl (by omega) (show p+i<l.length by omega)]
   simp only[qBi]
   rw[qgK]
   have ih:=qsW (F:=F) hl hm he hem h17 hpe k (i+1) (by omega) (by omega)
   have hstep:((l.drop (p+i)).take (e.length-i)=e.drop i)↔(e[i]=l[p+i]∧(l.drop (p+(i+1))).take (e.length-(i+1))=e.drop (i+1)):=by
    rw[qBq (show p+i<l.length by omega),qBq hlt,show e.length-i=(e.length-(i+1))+1 from by omega,List.take_succ_cons,List.cons.injEq,show p+i+1=p+(i+1) from by omega]
    grind
   rw[qu (by omega)]
   grind
  ·obtain rfl:i=e.length:=by omega
   rw[if_neg (show ¬ decide (((e.length:Nat):Int)<(((e.length:Int),pk e,false):Int×qD0×Bool).1)=true by simp)]
   rw[if_pos (by simp)]
   rfl
theorem qxF {fr:qD0}{least:Int}:1≤(enc node x fr back least k).length:=by
 grind [enc,qk9]
theorem qwf (hF:2000000≤F)(h1:1≤k)(h2:k≤16){l:qD0}(hl:Bit l)(hm:l.length≤8192){least:Int}{fr:qD0}(hn:Nd node)(hp:p≤l.length)(hfr:0<back→gkc fr=0)(hle:least=0∨2≤least∧least≤300) :
  match rdl l p node fr back least k with
  | none=>∃ a b,vJ F (l.length:Int) (pk l) (p:Int) node fr back least (k:Int)=some ([],false,a,b)
  | some r=>vJ F (l.length:Int) (pk l) (p:Int) node fr back least (k:Int)=some (r.1,true,(l.length:Int),(r.2:Int)):=by
 have hL:=qAe hF h1 h2 hl hm hn hp hfr hle
 unfold vJ rdl
 cases hr:rls l p node fr back least k with
 | none =>
  rw[hr] at hL
  obtain ⟨z,hz⟩:=hL
  rw[hz]
  exact ⟨_,_,rfl⟩
 | some r =>
  rw[hr] at hL
  have hL':vI F (l.length:Int) (pk l) (p:Int) node fr back least (k:Int)=some (.inl (r.1,(l.length:Int),(r.2:Int))):=hL
  have hat:=qwc hl h1 hr
  rw[hL',qvp,qgk (by omega)]
  simp only[qBi]
  rw[qgK]
  by_cases hg:gkc r.1=0
  ·obtain ⟨e,f,he,hrep⟩:=qqf hF h1 h2 (x:=r.1) hn hg hfr hle
   have hen:=qxF (node:=node) (x:=r.1) (fr:=fr) (back:=back) (least:=least) (k:=k)
   rw[if_pos (show (gkc r.1 == 0)=true by grind),he]
   simp only[qBi]
   cases f with
   | true =>
    have hfl:=hrep.full rfl
    rw[qgK]
    rw[if_neg (fun hh=>by omega)]
    exact ⟨_,_,rfl⟩
   | false =>
    have hel:=hrep.ok rfl
    have heb:=hrep.bit
    have hem:=hrep.len
    rw[hel] at heb hem ⊢
    simp only[qDv,if_true]
    rw[zN (by omega) (by omega),qgK]
    by_cases hq:p+(enc node r.1 fr back least k).length=r.2
    ·rw[if_pos (show (((enc node r.1 fr back least k).length:Int) == (r.2:Int)-p)=true by grind)]
     unfold vT
     have:=qsW (F:=F) hl hm heb hem (p:=p) (x17:=(r.1,(l.length:Int),(r.2:Int))) rfl (by omega) F 0 (by omega) (by omega)
     grind
    grind
  simp_all
theorem qhF {n:Nat}(hn:n≤1099511627776)(hm:(n:Int)≤most)(P R:qD0):rgam (P++(ga n++R)) P.length most=some ((n:Int),P.length+(ga n).length):=by
 unfold rgam
 rw[← qBt,qAQ hn]
 grind
theorem qn7 {n:Int}(h0:0≤n)(hn:n≤1099511627776)(hm:n≤most)(P R:qD0):rgam (P++(ga n.toNat++R)) P.length most=some (n,P.length+(ga n.toNat).length):=by
 grind [qhF]
theorem qsD {many:Int}(hmany:many≤1000000):∀ (bs:qD0) (b:Bool) (P R:qD0),okB (!b) bs=true→(∀ n∈bs,n≤many)→rbl (P++(encBs b bs++R)) many bs.length b P.length=some (bs,P.length+(encBs b bs).length)
 | [],b,P,R,_,_=>by rfl
 | n::bs,b,P,R,h,hb=>by
  rw[qhq] at h
  simp only[qB6,qCK,decide_eq_true_eq,qCL] at h
  have hn:=hb n (by simp)
  have hv:0≤n-(if b=true then 1 else 0):=by
   grind
  unfold encBs
  simp only[qBQ,rbl,qBt]
  rw[qn7 hv (by omega) (by omega)]
  simp only[qBi]
  have:=qsD hmany bs true (P++ga (n-if b=true then 1 else 0).toNat) R (by simp_all) (fun z hz=>hb z (by grind))
  grind
theorem qv5 (hmany:many≤1000000){bs:qD0}(P R:qD0)(h:okB true bs=true)(hb:∀ n∈bs,n≤many)(hl:(bs.length:Int)≤many+1):rblk (P++(encB bs++R)) P.length many=some (bs,P.length+(encB bs).length):=by
 grind [rblk,encB,qhF,qBo,qsD,qBr]
theorem qsQ {least many:Int}(hle:0≤least):∀ (R:List (Int×Int)) (b:Bool) (a q:Int) (P T:qD0),(∀ r∈R,RunOk r∧least≤r.2∧r.2-least≤many)→Nd a→Sep q R→(b=true→a+1≤q) →
  rrn (P++(encRs least b a R++T)) least many R.length b a P.length=some (R,P.length+(encRs least b a R).length)
 | [],_,_,_,P,T,_,_,_,_=>by rfl
 | r::R,b,a,q,P,T,hR,ha,hs,hb=>by
  obtain ⟨hro,hrl,hrm⟩:=hR r (by simp)
  obtain ⟨s1,s2,s3⟩:=hs
  unfold RunOk at hro
  unfold Nd at ha
  have hf:=qk8 (x:=r.1-a) (by omega)
  have hf2:foldOf (r.1-a)≤2097152:=by grind [foldOf]
  have hv:0≤(if b=true then r.1-a-2 else foldOf (r.1-a))∧(if b=true then r.1-a-2 else foldOf (r.1-a))≤2097152:=by
   grind
  unfold encRs
  simp only[qBQ,rrn,qBt]
  rw[qn7 hv.1 (by omega) hv.2]
  simp only[qBi]
  have e1:=qn7 (n:=r.2-least) (most:=many) (by omega) (by omega) hrm (P++ga (if b=true then r.1-a-2 else foldOf (r.1-a)).toNat) (encRs least true (r.1+r.2-1) R++T)
  simp only[qBt,qBr] at e1
  rw[e1]
  simp only[qBi]
  have e2:a+(if b=true then (if b=true then r.1-a-2 else foldOf (r.1-a))+2 else kR (if b=true then r.1-a-2 else foldOf (r.1-a)))=r.1:=by
   cases b with
   | false=>simp only[qBy,if_false];rw[qkg];omega
   | true=>grind
  rw[e2,show r.2-least+least=r.2 from by omega]
  have:=qsQ hle R true (r.1+r.2-1) (r.1+r.2) ((P++ga (if b=true then r.1-a-2 else foldOf (r.1-a)).toNat)++ga (r.2-least).toNat) T (fun z hz=>hR z (by grind)) (by unfold Nd;omega) s3 (fun _=>by omega)
  grind
theorem qmK {least q:Int}(hle:2≤least):∀ {R:List (Int×Int)},Sep q R→(∀ r∈R,least≤r.2)→least*(R.length:Int)≤((flat R).length:Int)
 | [],_,_=>by simp
 | r::R,hs,hR=>by
  have h1:=hR r (by simp)
  have:=qmK hle hs.2.2 (fun z hz=>hR z (by grind))
  rw[k7,qBr,qeM,qBQ]
  grind
theorem qwg {least q:Int}(hle:2≤least)(P T:qD0)(hR:∀ r∈R,RunOk r∧least≤r.2)(hn:Nd node)(hs:Sep q R)(hm:((flat R).length:Int)≤many)(hmm:many≤300) :
  rrns (P++(encR least node R++T)) P.length node least many=some (R,P.length+(encR least node R).length):=by
 unfold rrns encR
 have h1:=qmK hle hs (fun r hr=>(hR r hr).2)
 have h2:(R.length:Int)≤many/least:=by
  rw[Int.le_ediv_iff_mul_le (by omega)]
  grind
 have h3:many/least≤many:=qDl _ (by omega)
 rw[qBt,qhF (by omega) h2]
 simp only[qBi,qBo]
 have:=qsQ (least:=least) (many:=many) (by omega) R false node q (P++ga R.length) T (fun r hr=>⟨(hR r hr).1,(hR r hr).2,by have:=qjH hr;omega⟩) hn hs (by simp)
 grind
theorem qr2 {least:Int}(h:gkc rest=0):skc (encO rest least)=0∧Ris (-1) (encS rest least)∧(flat (encO rest least)++encS rest least).Perm rest∧(flat (encO rest least)).Pairwise (·≤·):=by
 obtain ⟨hm,hs⟩:=vt.1 h
 unfold encO encS
 by_cases hl:0<least
 ·rw[if_pos hl,if_pos hl]
  exact ⟨qyr hm hs _,qoe hs _,qpU _ _,qsC (qb1 (qoe hs _)).1⟩
 ·rw[if_neg hl,if_neg hl]
  exact ⟨by decide,hs,by rfl,by simp[flat]⟩
theorem qpM (h1:1≤k)(h2:k≤16){least:Int}(hn:Nd node){out:qD0}(hr:gkc rest=0)(hx:gkc x=0)(hp:(out++rest).Perm x)(P T:qD0) :
  rls2 (P++(zes k (gp false node (encS rest least))++T)) node k x.length out (encO rest least) P.length=some (x,P.length+(zes k (gp false node (encS rest least))).length):=by
 obtain ⟨e1,e2,e3,e4⟩:=qr2 (least:=least) hr
 have hrm:=(vt.1 hr).1
 have hlen:=e3.length_eq
 have hlen2:=hp.length_eq
 rw[qBr] at hlen hlen2
 have hrmm:rm (encO rest least) []=(flat (encO rest least),0):=qtP e1 (by decide) (by rw[qrY];simp) (by simp) e4 (by omega)
 unfold rls2
 rw[hrmm]
 simp only[true_and]
 rw[if_pos (by omega),show ((x.length:Int)-out.length-(flat (encO rest least)).length).toNat=(gp false node (encS rest least)).length from by rw[qqM];omega]
 have h40:L40 (gp false node (encS rest least)):=fun z hz=>by have:=qvh hn e2 (by simp) z hz;omega
 have:=qsb h1 h2 P T h40 (qyY (b:=false) hn e2 (by simp))
 rw[qBt] at this
 rw[this]
 simp only
 have hpx:(out++(flat (encO rest least)++encS rest least)).Perm x:=(List.Perm.append_left out e3).trans hp
 grind [qoc,qsC,qla]
theorem qpL (h1:1≤k)(h2:k≤16){least:Int}(hn:Nd node)(hle:least=0∨2≤least∧least≤300){out:qD0}(hr:gkc rest=0)(hx:gkc x=0)(ho:out.Pairwise (·≤·))(hp:(out++rest).Perm x)(P T:qD0) :
  rls1 (P++(encL node rest least k++T)) node least k x.length out P.length=some (x,P.length+(encL node rest least k).length):=by
 have hlen2:=hp.length_eq
 have hxm:=(vt.1 hx).1
 obtain ⟨hrm,hrs⟩:=vt.1 hr
 rw[qBr] at hlen2
 unfold rls1 encL
 by_cases h0:rest=[]
 ·subst h0
  simp only[qCw,Nat.add_zero] at hlen2
  rw[if_pos (by omega),if_pos rfl]
  rw[qBV] at hp
  have e1:=qoc hp (qsC (qla hx))
  have e2:=qoc (qBM out) ho
  simp_all
 ·have hl0:rest.length≠0:=by grind
  rw[if_neg (by omega),if_neg h0]
  by_cases hl:0<least
  ·obtain ⟨e1,e2,e3,e4⟩:=qr2 (least:=least) hr
   have hlen:=e3.length_eq
   rw[qBr] at hlen
   obtain ⟨r1,r2⟩:=qwh hrm hrs
   have hO:encO rest least=spO least (rs rest):=by grind [encO]
   rw[if_pos hl,if_pos hl,qBt,qwg (q:=-1) (by omega) _ _ (fun r hrr=>by rw[hO] at hrr;exact ⟨r2 r (qCf.1 hrr).1,by simpa using (qCf.1 hrr).2⟩) hn (by rw[hO];exact qgR _ r1) (by omega) (by omega)]
   grind [qpM,qBr]
  ·rw[if_neg hl,if_neg hl,qBF]
   have hO:encO rest least=[]:=by grind [encO]
   grind [qpM]
theorem qyd (h1:1≤k)(h2:k≤16){least:Int}{fr:qD0}(hn:Nd node)(hle:least=0∨2≤least∧least≤300)(hx:gkc x=0)(hfr:0<back→gkc fr=0)(P T:qD0) :
  rls (P++(enc node x fr back least k++T)) P.length node fr back least k=some (x,P.length+(enc node x fr back least k).length):=by
 have hxm:=(vt.1 hx).1
 unfold rls enc rstO
 rw[qBt,qhF (by omega) (by omega)]
 simp only[qBi]
 by_cases h0:x=[]
 ·simp_all
 ·have hx0:x.length≠0:=by grind
  rw[if_neg (by omega),if_neg h0]
  by_cases hb:0<back
  ·have hfg:=hfr hb
   have hfl:=(vt.1 hfg).1
   rw[if_pos hb,if_pos hb,if_pos hb]
   have htl:=qos fr x
   have hok:okB true (tbs fr x)=true:=qln _ _ _ _ (by omega) (Or.inl rfl)
   have hsum:bsum (tbs fr x)≤0+(fr.map (hasB x)).length:=qiV _ _ _ (by omega)
   rw[qBJ] at hsum
   have e1:=qv5 (many:=(fr.length:Int)) (by omega) (bs:=tbs fr x) (P++ga x.length) (encL node (rst fr x) least k++T) hok (fun n hnm=>by have:=qnS hok n hnm;omega) (by omega)
   simp only[qBt,qBr] at e1
   rw[qBt,e1]
   simp only[qBi]
   rw[qxx hfg]
   have hbe:=qvN hfg hx
   have hfx:(fr.filter (hasB x)).length≤x.length:=by grind
   rw[if_pos ⟨rfl,by simp_all⟩]
   have hperm:(fr.filter (hasB x)++rst fr x).Perm x:=by rw[hbe];exact qtv _ _
   have:=qpL h1 h2 hn hle (qsT hx) hx (qsC ((qla hfg).sublist qC6)) hperm ((P++ga x.length)++encB (tbs fr x)) T
   grind
  ·rw[if_neg hb,if_neg hb,if_neg hb,qBF]
   have:=qpL h1 h2 hn hle hx hx (out:=[]) (by simp) (by simp) (P++ga x.length) T
   grind
def hcB (back least k:Int):Prop:=back<0∨7<back∨least<0∨least=1∨300<least∨k<1∨16<k
instance hcDec (back least k:Int):Decidable (hcB back least k):=inferInstanceAs (Decidable (_∨_))
def hcE (back least k:Int):Int:=if hcB back least k then 3 else 0
def scE (node:Int)(fr:qD0)(back:Int):Int:=if Nd node then (if 0<back then gkc fr else 0) else 3
theorem qgm {least k:Int}:vr F back least k=some (hcE back least k):=by
 unfold vr hcE
 by_cases h:hcB back least k
 ·rw[if_pos (by unfold hcB at h;grind),if_pos h]
 ·rw[if_neg (by unfold hcB at h;simp_all),if_neg h]
theorem qtV (hF:20000≤F){least k:Int}{fr:qD0}:qeK F node fr back least k=some (scE node fr back):=by
 grind [qeK,scE,Nd,qgk]
theorem qeB {least k:Int}(h:hcE back least k=0):(0≤back∧back≤7)∧(least=0∨2≤least∧least≤300)∧∃ k':Nat,k=(k':Int)∧1≤k'∧k'≤16:=by
 unfold hcE at h
 split at h
 ·omega
 ·rename_i h1
  unfold hcB at h1
  exact ⟨by omega,by omega,k.toNat,by omega,by omega,by omega⟩
theorem qAi {fr:qD0}(h:scE node fr back=0):Nd node∧(0<back→gkc fr=0):=by
 grind [scE]
theorem qAh {fr:qD0}(h:Nd node)(h2:0<back→gkc fr=0):scE node fr back=0:=by
 grind [scE]
theorem qpR (hF:2000000≤F)(h1:1≤k)(h2:k≤16){l:qD0}(hl:Bit l)(hm:l.length≤8192){least:Int}{fr:qD0}(hn:Nd node)(hp:p≤l.length)(hfr:0<back→gkc fr=0)(hle:least=0∨2≤least∧least≤300) :
  qah F (l.length:Int) (pk l) (p:Int) node fr back least (k:Int)=some (match rdl l p node fr back least k with | none=>([],0,1) | some r=>(r.1,(r.2:Int),0)):=by
 grind [qwf,qah]
def swE (node:Int)(x fr:qD0)(back least k:Int):Int:=if hcE back least k≠0 then hcE back least k else if ¬ Nd node then 3 else if gkc x≠0 then gkc x else scE node fr back
def sw (node:Int)(x fr:qD0)(back least k:Int):Int×qD0×Int :=
 if swE node x fr back least k≠0 then (0,[],swE node x fr back least k) else
 if 8192<(enc node x fr back least k.toNat).length then (0,[],8) else (((enc node x fr back least k.toNat).length:Int),pk (enc node x fr back least k.toNat),0)
theorem qAr {least k:Int}{fr:qD0}(h:swE node x fr back least k=0):hcE back least k=0∧Nd node∧gkc x=0∧(0<back→gkc fr=0):=by
 grind [swE,qAi]
theorem qAq {least k:Int}{fr:qD0}(h1:hcE back least k=0)(h2:Nd node)(h3:gkc x=0)(h4:0<back→gkc fr=0):swE node x fr back least k=0:=by
 grind [swE,qAh]
theorem qt1 (hF:2000000≤F){least k:Int}{fr:qD0}:qeJ F node x fr back least k=some (sw node x fr back least k):=by
 have hj:qaT F node x fr back least k (swE node x fr back least k)=some (sw node x fr back least k):=by
  unfold qaT sw
  by_cases h:swE node x fr back least k=0
  ·rw[if_neg (by grind),if_neg (by omega)]
   obtain ⟨h1,h2,h3,h4⟩:=qAr h
   obtain ⟨k1,k2,k',rfl,k3,k4⟩:=qeB h1
   obtain ⟨l,f,e,hr⟩:=qqf hF k3 k4 h2 h3 h4 k2
   rw[e]
   simp only[qBi,qBo]
   cases f with
   | true=>have:=hr.full rfl;simp_all
   | false =>
    have e1:=hr.ok rfl
    have e2:=hr.len
    simp_all
  simp_all
 unfold qeJ
 rw[qgm]
 simp only[qBi]
 by_cases h1:hcE back least k=0
 ·rw[if_pos (by grind),qx0]
  grind [qaU,qaR,qgk,qaS,swE,qtV]
 grind [swE,qaU,qaR,qaS]
theorem qsG (h1:1≤k)(h2:k≤16){least:Int}{fr:qD0}(hn:Nd node)(hle:least=0∨2≤least∧least≤300)(hx:gkc x=0)(hfr:0<back→gkc fr=0)(P T:qD0)(hL:(enc node x fr back least k).length≤8192) :
  rdl (P++(enc node x fr back least k++T)) P.length node fr back least k=some (x,P.length+(enc node x fr back least k).length):=by
 grind [rdl,qyd]
theorem qpJ {l:qD0}{least:Int}{fr:qD0}{r:qD0×Nat}(hl:Bit l)(h1:1≤k)(h:rdl l p node fr back least k=some r) :
  gkc r.1=0∧(enc node r.1 fr back least k).length≤8192∧p+(enc node r.1 fr back least k).length=r.2∧(l.drop p).take (enc node r.1 fr back least k).length=enc node r.1 fr back least k∧r.2≤l.length:=by
 unfold rdl at h
 rw[qBR] at h
 obtain ⟨r',h2,h⟩:=h
 split at h
 ·rename_i hc
  simp only[qBs] at h
  subst h
  exact ⟨hc.1,hc.2.1,hc.2.2.1,hc.2.2.2,qwc hl h1 h2⟩
 simp_all
theorem qr3 {least:Int}{fr:qD0}:Bit (enc node x fr back least k):=by
 have hn:Bit ([]:qD0):=by intro z hz;grind
 have h1:∀ (bs:qD0) (b:Bool),Bit (encBs b bs):=by
  intro bs
  induction bs with
  | nil=>intro b;exact hn
  | cons n bs ih=>intro b;exact vi (qir _) (ih true)
 have h2:∀ (R:List (Int×Int)) (b:Bool) (a:Int),Bit (encRs least b a R):=by
  intro R
  induction R with
  | nil=>intro b a;exact hn
  | cons r R ih=>intro b a;exact vi (qir _) (vi (qir _) (ih true _))
 grind [enc,encL,encB,encR,vi,qir,qtc]
theorem qA9 {least k:Int}{fr:qD0}(h:swE node x fr back least k=0)(h2:(enc node x fr back least k.toNat).length≤8192):sw node x fr back least k=(((enc node x fr back least k.toNat).length:Int),pk (enc node x fr back least k.toNat),0):=by
 grind [sw]
def pkH (B:Int)(r:Nat):qD0:=if 0<B then ga r else []
def pkF (g:List (qD0))(i r:Nat):qD0:=if 0<r then g.getD (i-r) [] else []
def pkW (g:List (qD0))(B least:Int)(k i r:Nat):qD0:=pkH B r++enc (i:Int) (g.getD i []) (pkF g i r) (r:Int) least k
def bwy (f:Nat→qD0):Nat→Nat×qD0
 | 0=>(0,f 0)
 | n+1=>if (f (n+1)).length<(bwy f n).2.length then (n+1,f (n+1)) else bwy f n
theorem quC (f:Nat→qD0):∀ n:Nat,(bwy f n).1≤n∧(bwy f n).2=f (bwy f n).1
 | 0=>⟨qBw _,rfl⟩
 | n+1=>by
  have:=quC f n
  unfold bwy
  grind
theorem qnD (f:Nat→qD0):∀ {n r:Nat},r≤n→(bwy f n).2.length≤(f r).length
 | 0,r,h=>by
  have:r=0:=by omega
  subst this;exact qBw _
 | n+1,r,h=>by
  unfold bwy
  by_cases hr:r=n+1
  ·grind
  ·have:=qnD f (n:=n) (r:=r) (by omega)
   grind
theorem qmw {f f':Nat→qD0}:∀ {n:Nat},(∀ r,r≤n→f r=f' r)→bwy f n=bwy f' n
 | 0,h=>by unfold bwy;simp_all
 | n+1,h=>by
  unfold bwy
  rw[h (n+1) (qBw _),qmw (n:=n) fun r hr=>h r (by omega)]
def pkN (g:List (qD0))(B least:Int)(k i:Nat):Nat×qD0:=bwy (pkW g B least k i) (min B.toNat i)
def pkA (g:List (qD0))(B least:Int)(k:Nat):Nat→qD0×qD0×qD0
 | 0=>([],[],[])
 | n+1=>((pkA g B least k n).1++(pkN g B least k n).2,(pkA g B least k n).2.1++[((pkN g B least k n).1:Int)],(pkA g B least k n).2.2++[((pkA g B least k n).1.length:Int)])
def pkE (g:List (qD0))(B least k:Int):Int:=if gchk g≠0 then gchk g else if hcE B least k≠0 then hcE B least k else if 8192<(pkA g B least k.toNat g.length).1.length then 8 else 0
theorem qhr {least k:Int}(h:pkE g B least k=0):gchk g=0∧hcE B least k=0∧(pkA g B least k.toNat g.length).1.length≤8192:=by
 grind [pkE]
theorem qz7 {least k:Int}(h1:gchk g=0)(h2:hcE B least k=0)(h3:(pkA g B least k.toNat g.length).1.length≤8192):pkE g B least k=0:=by
 grind [pkE]
theorem qn1 {g:List (qD0)}{B least:Int}{k:Nat}:∀ {n i:Nat},i≤n→∃ R,(pkA g B least k n).1=(pkA g B least k i).1++R
 | 0,i,h=>by
  simp_all
 | n+1,i,h=>by
  by_cases hi:i=n+1
  ·simp_all
  ·obtain ⟨R,hR⟩:=qn1 (g:=g) (B:=B) (least:=least) (k:=k) (n:=n) (i:=i) (by omega)
   grind [pkA]
theorem qpy {g:List (qD0)}{B least:Int}{k:Nat}:∀ n:Nat,(pkA g B least k n).2.1.length=n∧(pkA g B least k n).2.2.length=n
 | 0=>⟨rfl,rfl⟩
 | n+1=>by
  have:=qpy (g:=g) (B:=B) (least:=least) (k:=k) n
  grind [pkA]
theorem qfm {least:Int}{n i:Nat}(h:i≤n):(pkA g B least k i).1.length≤(pkA g B least k n).1.length:=by
 obtain ⟨R,hR⟩:=qn1 (g:=g) (B:=B) (least:=least) (k:=k) h
 simp_all
theorem qjQ {least:Int}{i:Nat}:(pkN g B least k i).1≤min B.toNat i∧(pkN g B least k i).2=pkW g B least k i (pkN g B least k i).1:=quC _ _
theorem qpz {least:Int}{n i:Nat}(h:i<n):∃ R,(pkA g B least k n).1=(pkA g B least k i).1++((pkH B (pkN g B least k i).1++enc (i:Int) (g.getD i []) (pkF g i (pkN g B least k i).1) ((pkN g B least k i).1:Int) least k)++R):=by
 obtain ⟨R,hR⟩:=qn1 (g:=g) (B:=B) (least:=least) (k:=k) (n:=n) (i:=i+1) h
 grind [pkA,qjQ,pkW]
theorem qzQ (h:Gr g){l:qD0}(hl:l∈g):gkc l=0:=by
 have h1:=h.2.1 l hl
 have h2:=qgI h hl
 have h3:=h.1
 grind [vt,qn6,Nd]
theorem qnL (h:Gr g)(i:Nat):gkc (g.getD i [])=0:=by
 by_cases hi:i<g.length
 ·grind [qzQ]
 ·rw[List.getD_eq_getElem?_getD,List.getElem?_eq_none (by omega)]
  decide
theorem qky (h:Gr g)(i r:Nat):gkc (pkF g i r)=0:=by
 unfold pkF
 split
 ·exact qnL h _
 rfl
def pkO (l:qD0)(B:Int)(node p:Nat):Option (Int×Nat):=if B=0 then some (0,p) else rgam l p (min B (node:Int))
def pkR (l:qD0)(B least:Int)(k:Nat):Nat→List (qD0)→Nat→Option (List (qD0)×Nat)
 | 0,out,p=>some (out,p)
 | m+1,out,p=>(pkO l B out.length p).bind fun o=>(rdl l o.2 (out.length:Int) (pkF out out.length o.1.toNat) o.1 least k).bind fun r=>pkR l B least k m (out++[r.1]) r.2
theorem qvQ {i:Nat}(h:r≤i)(_hi:i≤g.length):pkF (g.take i) i r=pkF g i r:=by
 grind [pkF]
theorem qn3 {g:List (qD0)}(hg:Gr g){B least:Int}{k:Nat}(hh:hcE B least (k:Int)=0)(hl:(pkA g B least k g.length).1.length≤8192)(T:qD0):∀ (m i:Nat),i+m=g.length →
  pkR ((pkA g B least k g.length).1++T) B least k m (g.take i) (pkA g B least k i).1.length=some (g,(pkA g B least k g.length).1.length)
 | 0,i,h=>by
  grind [pkR]
 | m+1,i,h=>by
  have hi:i<g.length:=by omega
  obtain ⟨k1,k2,k',hk,k3,k4⟩:=qeB hh
  have hkk:k=k':=by omega
  subst hkk
  obtain ⟨hr,_⟩:=qjQ (g:=g) (B:=B) (least:=least) (k:=k) (i:=i)
  have hgl:=hg.1
  have hti:(g.take i).length=i:=by grind
  obtain ⟨R,hR⟩:=qpz (g:=g) (B:=B) (least:=least) (k:=k) hi
  have hnext:=qn3 hg hh hl T m (i+1) (by omega)
  have hA:(pkA g B least k (i+1)).1.length=(pkA g B least k i).1.length+(pkH B (pkN g B least k i).1).length+(enc (i:Int) (g.getD i []) (pkF g i (pkN g B least k i).1) ((pkN g B least k i).1:Int) least k).length:=by
   grind [pkA,pkW]
  have hO:pkO ((pkA g B least k g.length).1++T) B i (pkA g B least k i).1.length=some (((pkN g B least k i).1:Int),(pkA g B least k i).1.length+(pkH B (pkN g B least k i).1).length):=by
   grind [pkO,pkH,qhF]
  unfold pkR
  rw[hti,hO]
  simp only[qBi,qBo]
  rw[qvQ (by omega) (by omega)]
  have hE:(enc (i:Int) (g.getD i []) (pkF g i (pkN g B least k i).1) ((pkN g B least k i).1:Int) least k).length≤8192:=by
   grind
  have hD:=qsG (k:=k) k3 k4 (node:=(i:Int)) (back:=((pkN g B least k i).1:Int)) (least:=least) (x:=g.getD i []) (fr:=pkF g i (pkN g B least k i).1) (by unfold Nd;omega) k2 (qnL hg i) (fun _=>qky hg _ _) ((pkA g B least k i).1++pkH B (pkN g B least k i).1) (R++T) hE
  simp_all
theorem qzS {least k:Int}(h:hcE B least k=0)(hr:(r:Int)≤B):hcE (r:Int) least k=0:=by
 grind [hcE,hcB]
theorem qyP (hF:2000000≤F){A:List (qD0)}{fr H:qD0}{i:Nat}{least:Int}(hA:A.length=i)(hi:i≤100)(hx:gkc x=0)(hfr:gkc fr=0)(hh:hcE (r:Int) least (k:Int)=0)(hH:Bit H)(hHl:H.length≤100) :
  qbH F A x (r:Int) least (k:Int) (H.length:Int) (pk H) fr=some (if (H++enc (i:Int) x fr (r:Int) least k).length≤8192 then ((r:Int),((H++enc (i:Int) x fr (r:Int) least k).length:Int),pk (H++enc (i:Int) x fr (r:Int) least k),true) else (0,0,[],false)):=by
 unfold qbH
 rw[qt1 hF,hA]
 simp only[qBi]
 have hE:swE (i:Int) x fr (r:Int) least (k:Int)=0:=qAq hh (by unfold Nd;omega) hx (fun _=>hfr)
 rw[qBr]
 by_cases h1:(enc (i:Int) x fr (r:Int) least k).length≤8192
 ·have hs:=qA9 hE (by simp_all)
  rw[qBo] at hs
  grind [zb,qnB,qh1,qr3,qlo,qg0]
 grind [sw]
theorem qyO (hF:2000000≤F)(hg:Gr g){least:Int}{i:Nat}(hh:hcE B least (k:Int)=0)(hi:i≤g.length)(hr:r≤min B.toNat i) :
  qfz F (g.take i) (g.getD i []) (r:Int) B least (k:Int)=some (if (pkW g B least k i r).length≤8192 then ((r:Int),((pkW g B least k i r).length:Int),pk (pkW g B least k i r),true) else (0,0,[],false)):=by
 have hgl:=hg.1
 have hti:(g.take i).length=i:=by simp_all
 obtain ⟨k1,-,-⟩:=qeB hh
 have hh':hcE (r:Int) least (k:Int)=0:=qzS hh (by omega)
 have hj:∀ H:qD0,Bit H→H.length≤100→qbG F (g.take i) (g.getD i []) (r:Int) least (k:Int) (H.length:Int) (pk H)=some (if (H++enc (i:Int) (g.getD i []) (pkF g i r) (r:Int) least k).length≤8192 then ((r:Int),((H++enc (i:Int) (g.getD i []) (pkF g i r) (r:Int) least k).length:Int),pk (H++enc (i:Int) (g.getD i []) (pkF g i r) (r:Int) least k),true) else (0,0,[],false)):=by
  intro H hH hHl
  unfold qbG
  grind [zN,qo,pkF,qyP,qnL,qky]
 unfold qfz pkW pkH
 by_cases hB:0<B
 ·have hga:=qy5 (n:=r) (by omega)
  rw[if_pos (by grind),if_pos hB,vu (by omega),qkb (by omega) (by omega)]
  grind [qir]
 ·rw[if_neg (by grind),if_neg hB]
  exact hj [] (by intro z hz;grind) (by simp)
def bst (f:Nat→qD0)(j:Nat):Bool×Int×Int×qD0:=if j=0 then (false,0,0,[]) else if (bwy f (j-1)).2.length≤8192 then (true,((bwy f (j-1)).1:Int),((bwy f (j-1)).2.length:Int),pk (bwy f (j-1)).2) else (false,0,0,[])
theorem quy {F:Nat}(hF:2000000≤F){g:List (qD0)}(hg:Gr g){B least:Int}{k i:Nat}(hh:hcE B least (k:Int)=0)(hi:i≤g.length):∀ (n j:Nat),min B.toNat i+1<n+j→j≤min B.toNat i+1 →
  vm F (g.take i) (g.getD i []) B least (k:Int) n ((bst (pkW g B least k i) j).1,(j:Int),(bst (pkW g B least k i) j).2.1,(bst (pkW g B least k i) j).2.2.1,(bst (pkW g B least k i) j).2.2.2)=some (if (pkN g B least k i).2.length≤8192 then (((pkN g B least k i).1:Int),((pkN g B least k i).2.length:Int),pk (pkN g B least k i).2,true) else (0,0,[],false))
 | 0,_,_,_=>by omega
 | n+1,j,h,hj=>by
  have hgl:=hg.1
  have hti:(g.take i).length=i:=by simp_all
  obtain ⟨k1,-,-⟩:=qeB hh
  show qes F (g.take i) (g.getD i []) B least (k:Int) (vm F (g.take i) (g.getD i []) B least (k:Int) n) (bst (pkW g B least k i) j).1 (j:Int) (bst (pkW g B least k i) j).2.1 (bst (pkW g B least k i) j).2.2.1 (bst (pkW g B least k i) j).2.2.2=_
  unfold qes
  have hmin:imin B ((g.take i).length:Int)=((min B.toNat i:Nat):Int):=by
   grind [imin]
  rw[hmin,zb (by omega) (by omega)]
  by_cases hlt:j<min B.toNat i+1
  ·rw[if_pos (by grind),qyO hF hg hh hi (by omega)]
   simp only[qBi]
   have hrec:=quy hF hg hh hi n (j+1) (by omega) (by omega)
   have hnew:(pkW g B least k i j).length≤8192→bwy (pkW g B least k i) j=(j,pkW g B least k i j)→vl F (vm F (g.take i) (g.getD i []) B least (k:Int) n) (j:Int) true (j:Int) ((pkW g B least k i j).length:Int) (pk (pkW g B least k i j))=some (if (pkN g B least k i).2.length≤8192 then (((pkN g B least k i).1:Int),((pkN g B least k i).2.length:Int),pk (pkN g B least k i).2,true) else (0,0,[],false)):=by
    grind [vl,qu,bst]
   have hold:bst (pkW g B least k i) (j+1)=bst (pkW g B least k i) j→vl F (vm F (g.take i) (g.getD i []) B least (k:Int) n) (j:Int) (bst (pkW g B least k i) j).1 (bst (pkW g B least k i) j).2.1 (bst (pkW g B least k i) j).2.2.1 (bst (pkW g B least k i) j).2.2.2=some (if (pkN g B least k i).2.length≤8192 then (((pkN g B least k i).1:Int),((pkN g B least k i).2.length:Int),pk (pkN g B least k i).2,true) else (0,0,[],false)):=by
    grind [vl,qu]
   unfold qch
   by_cases hl:(pkW g B least k i j).length≤8192
   ·rw[if_pos hl]
    simp only[if_true]
    by_cases h0:j=0
    ·subst h0
     rw[if_pos (by rfl)]
     exact hnew hl rfl
    ·obtain ⟨q,rfl⟩:∃ q,j=q+1:=⟨j-1,by omega⟩
     grind [bwy,bst]
   ·rw[if_neg hl]
    simp only[qBy,if_false]
    refine hold ?_
    unfold bst
    rw[if_neg (by omega),qCU]
    by_cases h0:j=0
    ·subst h0
     rw[if_pos rfl,bwy,if_neg hl]
    ·obtain ⟨q,rfl⟩:∃ q,j=q+1:=⟨j-1,by omega⟩
     grind [bwy]
  grind [qfb,bst,pkN]
theorem qxi (hF:2000000≤F)(hg:Gr g){least:Int}{i:Nat}(hh:hcE B least (k:Int)=0)(hi:i≤g.length) :
  qhd F (g.take i) (g.getD i []) B least (k:Int)=some (if (pkN g B least k i).2.length≤8192 then (((pkN g B least k i).1:Int),((pkN g B least k i).2.length:Int),pk (pkN g B least k i).2,true) else (0,0,[],false)):=by
 have hgl:=hg.1
 have:=quy hF hg hh hi F 0 (by omega) (qBH _)
 exact this
theorem qx6 {least:Int}{i:Nat}:Bit (pkW g B least k i r):=by
 grind [pkW,pkH,vi,qr3,qir]
theorem qn2 {least:Int}{i:Nat}:Bit (pkN g B least k i).2:=by
 grind [qjQ,qx6]
theorem qgN {g:List (qD0)}{B least:Int}{k:Nat}:∀ n:Nat,Bit (pkA g B least k n).1
 | 0=>by intro z hz;simp[pkA] at hz
 | n+1=>by unfold pkA;exact vi (qgN n) qn2
theorem qpn {i:Nat}(h:i<g.length):idx g (i:Int)=some (g.getD i []):=by
 grind [qo]
theorem qsB {F:Nat}(hF:2000000≤F){g:List (qD0)}(hg:Gr g){N B least:Int}{k:Nat}(hh:hcE B least (k:Int)=0):∀ (j i:Nat),g.length<j+i→i≤g.length→(pkA g B least k i).1.length≤8192 →
  ∃ z,kD F N B least (k:Int) g j ((i:Int),((pkA g B least k i).1.length:Int),pk (pkA g B least k i).1,(pkA g B least k i).2.1,(pkA g B least k i).2.2)=some z∧z.1=decide ((pkA g B least k g.length).1.length≤8192) ∧
   (z.1=true→z=(true,N,B,least,(k:Int),((pkA g B least k g.length).1.length:Int),pk (pkA g B least k g.length).1,(pkA g B least k g.length).2.1,(pkA g B least k g.length).2.2))
 | 0,_,_,_,_=>by omega
 | j+1,i,h,hi,hA=>by
  have hgl:=hg.1
  show ∃ z,qaq F N B least (k:Int) g (kD F N B least (k:Int) g j) (i:Int) ((pkA g B least k i).1.length:Int) (pk (pkA g B least k i).1) (pkA g B least k i).2.1 (pkA g B least k i).2.2=some z∧_
  unfold qaq
  by_cases hlt:i<g.length
  ·have e0:sub g 0 (i:Int)=some (g.take i):=by
    have:=qlM (l:=g) (i:=0) (j:=i) (by omega) hi
    simp_all
   have hstep:(pkA g B least k (i+1)).1.length=(pkA g B least k i).1.length+(pkN g B least k i).2.length:=by rw[pkA,qBr]
   have hmono:=qfm (g:=g) (B:=B) (least:=least) (k:=k) (show i+1≤g.length from hlt)
   rw[if_pos (by simp_all),qpn hlt,e0]
   simp only[qBi]
   rw[qxi hF hg hh hi]
   simp only[qBi]
   unfold qas
   by_cases h1:(pkN g B least k i).2.length≤8192
   ·rw[if_pos h1]
    simp only[qCe,qBy,if_false]
    rw[zb (by omega) (by omega)]
    unfold ye
    by_cases h2:(pkA g B least k i).1.length+(pkN g B least k i).2.length≤8192
    ·rw[if_neg (by grind)]
     have hl:=qpy (g:=g) (B:=B) (least:=least) (k:=k) i
     rw[kG (by grind)]
     simp only[qBi]
     rw[kG (by grind)]
     simp only[qBi]
     unfold qat
     rw[qnB (by omega) (qh1 (qgN i)) (qh1 qn2) (qlo hA) (qlo h1),qg0 (qgN i),qg0 qn2]
     simp only[qBi]
     have:=qsB hF hg (N:=N) hh j (i+1) (by omega) (by omega) (by omega)
     rw[qu (by omega),← hstep]
     exact this
    ·rw[if_pos (by grind)]
     grind
   ·rw[if_neg h1]
    simp only[qDv,if_true]
    unfold ye
    grind
  ·rw[if_neg (by simp_all)]
   have:i=g.length:=by omega
   subst this
   unfold qar
   simp_all
theorem qmQ (hF:2000000≤F){least k:Int} :
  ∃ z1 z2 z3 z4 z5 z6 z7 z8,qb2 F g B least k=some (z1,z2,z3,z4,z5,z6,z7,z8,pkE g B least k) ∧
   (pkE g B least k=0→(z1,z2,z3,z4,z5,z6,z7,z8)=((g.length:Int),B,least,k,((pkA g B least k.toNat g.length).1.length:Int),pk (pkA g B least k.toNat g.length).1,(pkA g B least k.toNat g.length).2.1,(pkA g B least k.toNat g.length).2.2)):=by
 unfold qb2
 rw[qa0 (by omega)]
 simp only[qBi]
 by_cases h1:gchk g=0
 ·rw[if_pos (by grind),qgm]
  simp only[qBi]
  unfold jZ
  by_cases h2:hcE B least k=0
  ·rw[if_pos (by grind)]
   obtain ⟨_,_,k',rfl,_,_⟩:=qeB h2
   have hg:=jP.1 h1
   have hgl:=hg.1
   obtain ⟨z,hz,hz1,hz2⟩:=qsB hF hg (N:=(g.length:Int)) h2 F 0 (by omega) (qBH _) (by simp[pkA])
   have hz':qcp F (g.length:Int) B least (k':Int) 0 [] [] [] g=some z:=by
    have e:pk ([]:qD0)=[]:=by rfl
    simp only[pkA,qCw,e] at hz
    exact hz
   rw[hz']
   simp only[qBi]
   unfold vw vv
   rw[qBo]
   by_cases h3:(pkA g B least k' g.length).1.length≤8192
   ·rw[decide_eq_true h3] at hz1
    have:=hz2 hz1
    have hE:pkE g B least (k':Int)=0:=qz7 h1 h2 (by simp_all)
    grind
   ·rw[decide_eq_false h3] at hz1
    have hE:pkE g B least (k':Int)=8:=by
     grind [pkE]
    simp_all
  ·have hE:pkE g B least k=hcE B least k:=by
    grind [pkE]
   rw[if_neg (by grind),hE]
   unfold vw vv
   simp_all
 ·have hE:pkE g B least k=gchk g:=by
   grind [pkE]
  rw[if_neg (by grind),hE]
  unfold jZ vw vv
  simp_all
def pwr (g:List (qD0))(B least k:Int):Int×Int×Int×Int×Int×qD0×Int :=
 if pkE g B least k≠0 then (0,0,0,0,0,[],pkE g B least k) else ((g.length:Int),B,least,k,((pkA g B least k.toNat g.length).1.length:Int),pk (pkA g B least k.toNat g.length).1,0)
def ptl (g:List (qD0))(B least k:Int):qD0×qD0×Int :=
 if pkE g B least k≠0 then ([],[],pkE g B least k) else ((pkA g B least k.toNat g.length).2.1,(pkA g B least k.toNat g.length).2.2,0)
theorem qmS (hF:2000000≤F){least k:Int}:qbR F g B least k=some (pwr g B least k):=by
 obtain ⟨z1,z2,z3,z4,z5,z6,z7,z8,hz,hz2⟩:=qmQ hF (g:=g) (B:=B) (least:=least) (k:=k)
 unfold qbR pwr
 grind
theorem qvY (hF:2000000≤F){least k:Int}:qd8 F g B least k=some (ptl g B least k):=by
 obtain ⟨z1,z2,z3,z4,z5,z6,z7,z8,hz,hz2⟩:=qmQ hF (g:=g) (B:=B) (least:=least) (k:=k)
 unfold qd8 ptl
 grind
theorem qvP {F:Nat}{xs ys:qD0}(he:xs.length=ys.length)(hm:xs.length≤1000000):∀ (k i:Nat),xs.length<k+i→i≤xs.length→kd F xs ys k (i:Int)=some (decide (xs.drop i=ys.drop i))
 | 0,_,_,_=>by omega
 | k+1,i,h,hi=>by
  show ka F xs ys (kd F xs ys k) (i:Int)=_
  unfold ka
  by_cases hlt:i<xs.length
  ·have hlt':i<ys.length:=by omega
   rw[if_pos (by simp_all),qo,qBk hlt,qo,qBk hlt']
   simp only[qBi]
   rw[qBq hlt,qBq hlt']
   by_cases hc:xs[i]=ys[i]
   ·rw[if_neg (by grind),qu (by omega),qvP he hm k (i+1) (by omega) (by omega)]
    congr 1
    grind
   grind [List.cons.inj]
  ·rw[if_neg (by simp_all),qBu (by omega),qBu (by omega)]
   rfl
theorem peqb {xs ys:qD0}(hF:xs.length<F)(hm:xs.length≤1000000):qX F xs ys=some (decide (xs=ys)):=by
 unfold qX
 by_cases h:xs.length=ys.length
 ·rw[if_neg (by grind)]
  have:=qvP (F:=F) h hm F 0 (by omega) (qBH _)
  simp_all
 ·rw[if_pos (by grind),decide_eq_false (fun e=>h (by rw[e]))]
theorem qtO {l:qD0}(h:rgam l p most=none):(fg l p).2.2≠0∨most<(fg l p).1:=by
 grind [rgam]
theorem qsI {l:qD0}{x:Int×Nat}(h:rgam l p most=some x):fg l p=(x.1,(x.2:Int),0)∧x.1≤most:=by
 grind [rgam,qu4]
theorem qvR {l:qD0}(_hB:0≤B){node:Nat}(hp:p≤l.length){o:Int×Nat}(h:pkO l B node p=some o):0≤o.1∧o.1≤min B (node:Int)∧o.2≤l.length:=by
 unfold pkO at h
 split at h
 ·grind
 ·have:=qaH h
  omega
theorem qsz (hF:20000≤F){l:qD0}(hl:Bit l)(hm:l.length≤8192){least k:Int}(hB:0≤B∧B≤7){node:Nat}(hn:node≤1000)(hp:p≤l.length) :
  qfa F N B least k (l.length:Int) (pk l) (p:Int) (node:Int)=some (match pkO l B node p with | none=>(0,0,false) | some o=>(o.1,(o.2:Int),true)):=by
 unfold qfa pkO
 by_cases h0:B=0
 ·rw[if_pos (by simpa using h0),if_pos h0]
 ·rw[if_neg (by simpa using h0),if_neg h0,qi2 hF hl hm hp]
  simp only[qBi]
  have hmin:imin B (node:Int)=min B (node:Int):=by unfold imin;split <;> omega
  have hcv:iconv .u64 (min B (node:Int))=min B (node:Int):=by
   obtain ⟨q,hq⟩:=qBm (a:=min B (node:Int)) (by omega)
   rw[hq];exact vu (by omega)
  unfold qdP
  rw[hmin,hcv]
  cases hr:rgam l p (min B (node:Int)) with
  | none =>
   rcases qtO hr with h1 | h1
   ·rw[if_pos (by simpa using h1),if_pos rfl]
   ·by_cases h2:(fg l p).2.2=0
    ·rw[if_neg (by simp[h2]),if_pos (by simpa using h1)]
    ·rw[if_pos (by simpa using h2),if_pos rfl]
  | some x =>
   obtain ⟨h1,h2⟩:=qsI hr
   have hok:=qaH hr
   rw[h1]
   simp only
   rw[if_neg (by simp),if_neg (by simp;omega)]
   have e:iconv .i64 x.1=x.1:=yb (by omega) (by omega)
   rw[e]
theorem qpD {F k:Nat}(hF:2000000≤F){l:qD0}(hl:Bit l)(hm:l.length≤8192){B least:Int}(hh:hcE B least (k:Int)=0){n:Nat}(hn:n≤100):∀ (j p:Nat) (out:List (qD0)),n<j+out.length→out.length≤n→p≤l.length→(∀ x∈out,gkc x=0) →
  qaM F (n:Int) B least (k:Int) (l.length:Int) (pk l) j (out,(p:Int),(out.length:Int))=some (match pkR l B least k (n-out.length) out p with | none=>([],false) | some r=>(r.1,decide (r.2=l.length)))
 | 0,_,_,_,_,_,_=>by omega
 | j+1,p,out,h,ho,hp,hg=>by
  obtain ⟨k1,k2,k',hk,k3,k4⟩:=qeB hh
  have hkk:k=k':=by omega
  subst hkk
  show qet F (n:Int) B least (k:Int) (l.length:Int) (pk l) (qaM F (n:Int) B least (k:Int) (l.length:Int) (pk l) j) out (p:Int) (out.length:Int)=_
  unfold qet
  by_cases hlt:out.length<n
  ·rw[if_pos (by simp_all),qsz (by omega) hl hm k1 (by omega) hp,show n-out.length=(n-(out.length+1))+1 from by omega]
   simp only[qBi,pkR]
   cases hO:pkO l B out.length p with
   | none=>rfl
   | some o =>
    obtain ⟨o1,o2,o3⟩:=qvR k1.1 hp hO
    simp only[qCe,qBy,if_false,qBi]
    have hfr:gkc (pkF out out.length o.1.toNat)=0:=by
     unfold pkF
     split
     ·grind
     rfl
    have hstep:∀ fr:qD0,fr=pkF out out.length o.1.toNat→((qah F (l.length:Int) (pk l) (o.2:Int) (out.length:Int) fr o.1 least (k:Int)).bind fun x488=>(if ((x488.2.2:Int) != 0) then some (([]:List (qD0)),false) else ((app 2199023255552 out ([x488.1]:List (qD0))).bind fun x494=>qaL F (qaM F (n:Int) B least (k:Int) (l.length:Int) (pk l) j) (out.length:Int) x494 x488.2.1)))=some (match (rdl l o.2 (out.length:Int) (pkF out out.length o.1.toNat) o.1 least k).bind fun r=>pkR l B least k (n-(out.length+1)) (out++[r.1]) r.2 with | none=>([],false) | some r=>(r.1,decide (r.2=l.length))):=by
     intro fr hfe
     subst hfe
     rw[qpR hF k3 k4 hl hm (by unfold Nd;omega) o3 (fun _=>hfr) k2]
     simp only[qBi]
     cases hr:rdl l o.2 (out.length:Int) (pkF out out.length o.1.toNat) o.1 least k with
     | none=>rfl
     | some r =>
      obtain ⟨r1,r2,r3,r4,r5⟩:=qpJ hl k3 hr
      simp only[qBi]
      rw[if_neg (by simp),kG (by grind)]
      simp only[qBi]
      unfold qaL
      have hl1:(out++[r.1]).length=out.length+1:=by simp
      have hrec:=qpD hF hl hm hh hn j r.2 (out++[r.1]) (by omega) (by omega) r5 (fun x hx=>by
       grind)
      grind [qu]
    grind [zN,qpn,pkF]
  ·rw[if_neg (by simp_all),show n-out.length=0 from by omega]
   grind [qeu,pkR,decide_eq_false]
def pcE (N B least k m:Int)(b:qD0):Int:=if N<0∨100<N then 3 else if hcE B least k≠0 then hcE B least k else chkOf m b
def prd (N B least k m:Int)(b:qD0):List (qD0)×Int :=
 if pcE N B least k m b≠0 then ([],pcE N B least k m b) else
 match pkR (bl b m.toNat) B least k.toNat N.toNat [] 0 with
 | none=>([],1)
 | some r=>if r.2=m.toNat∧pkE r.1 B least k=0∧pk (pkA r.1 B least k.toNat r.1.length).1=b then (r.1,0) else ([],1)
theorem qq8 {least k m:Int}(hb:U8s b)(hm:I64 m)(lb:b.length≤9223372036854775807):qeF F N B least k m b=some (pcE N B least k m b):=by
 unfold qeF pcE
 by_cases h1:N<0∨100<N
 ·simp_all
 ·rw[if_neg (by grind),if_neg h1,qgm]
  simp only[qBi]
  by_cases h2:hcE B least k=0
  ·rw[if_neg (by grind),if_neg (by omega),qk0 hb hm.1 hm.2 lb]
   rfl
  simp_all
theorem qvO {least k m:Int}(hb:U8s b)(h:pcE N B least k m b=0):∃ (n:Nat) (l:qD0),N=(n:Int)∧n≤100∧hcE B least k=0∧Bit l∧l.length≤8192∧m=(l.length:Int)∧b=pk l:=by
 unfold pcE at h
 by_cases h1:N<0∨100<N
 ·omega
 ·rw[if_neg h1] at h
  by_cases h2:hcE B least k=0
  ·rw[if_neg (by omega)] at h
   rcases qk1 hb (n:=m) with h3 | ⟨l,hl,hm,e1,e2⟩
   ·omega
   ·exact ⟨N.toNat,l,by omega,by omega,h2,hl,hm,e1,e2⟩
  omega
theorem qvX (hF:2000000≤F){least k m:Int}(hb:U8s b)(hm:I64 m)(lb:b.length≤9223372036854775807):qfy F N B least k m b=some (prd N B least k m b):=by
 unfold qfy prd
 rw[qq8 hb hm lb]
 simp only[qBi]
 by_cases h:pcE N B least k m b=0
 ·rw[if_neg (by grind),if_neg (by omega)]
  obtain ⟨n,l,rfl,hn,hh,hl,hlm,rfl,rfl⟩:=qvO hb h
  obtain ⟨k1,k2,k',rfl,k3,k4⟩:=qeB hh
  have hL:=qpD (F:=F) hF hl hlm hh hn F 0 [] (by omega) (qBH _) (qBH _) (by simp)
  have hL':qgB F (n:Int) B least (k':Int) (l.length:Int) (pk l)=_:=hL
  rw[hL']
  simp only[qBi,qCw,Nat.sub_zero,qBo,qg0 hl]
  cases hr:pkR l B least k' n [] 0 with
  | none=>rfl
  | some r =>
   simp only
   by_cases hp:r.2=l.length
   ·rw[decide_eq_true hp,if_neg (by simp),qmS hF]
    simp only[qBi]
    unfold pwr qcZ
    by_cases hE:pkE r.1 B least (k':Int)=0
    ·rw[if_neg (by grind)]
     simp only[qBo]
     obtain ⟨_,_,hA⟩:=qhr hE
     rw[qBo] at hA
     grind [peqb,pk]
    simp_all
   simp_all
 simp_all
theorem qwa {l:qD0}(hl:Bit l){x:Int×Nat}(h:rgam l p most=some x):x.2=p+(ga x.1.toNat).length:=by
 have hf:=(qsI h).1
 unfold fg at hf
 cases hz:fz (l.drop p) with
 | none=>simp_all
 | some k =>
  rw[hz] at hf
  simp only at hf
  unfold numOf at hf
  by_cases h1:64≤k
  ·simp_all
  ·rw[if_neg h1] at hf
   by_cases h2:l.length<p+k+1+k
   ·simp_all
   ·rw[if_neg h2] at hf
    by_cases h3:1099511627776<bv ((l.drop (p+k+1)).take k)+2^k-1
    ·simp_all
    ·rw[if_neg h3] at hf
     simp only[qDB,and_true] at hf
     have hb:=qrT (qiU (qhj hl (p+k+1)) k)
     grind [qtF,qk9]
theorem qx5 {l:qD0}(hl:Bit l)(hB:0≤B){node:Nat}{o:Int×Nat}(h:pkO l B node p=some o):o.2=p+(pkH B o.1.toNat).length:=by
 grind [pkO,pkH,qwa]
theorem qsu {i:Nat}(h:i≤g.length)(hr:r≤i):pkF (g++[x]) i r=pkF g i r:=by
 grind [pkF]
theorem qx4 {least:Int}{i:Nat}(h:i<g.length):pkN (g++[x]) B least k i=pkN g B least k i:=by
 grind [pkN,qmw,pkW,qsu]
theorem qst {g:List (qD0)}{x:qD0}{B least:Int}{k:Nat}:∀ {i:Nat},i≤g.length→pkA (g++[x]) B least k i=pkA g B least k i
 | 0,_=>rfl
 | i+1,h=>by
  unfold pkA
  rw[qst (i:=i) (by omega),qx4 (by omega)]
theorem qpA {l:qD0}(hl:Bit l){B least:Int}{k:Nat}(hB:0≤B)(hk:1≤k):∀ (m p:Nat) (out:List (qD0)) (r:List (qD0)×Nat),pkR l B least k m out p=some r→p≤l.length→(pkA out B least k out.length).1.length≤p →
  r.1.length=out.length+m∧(pkA r.1 B least k r.1.length).1.length≤r.2
 | 0,p,out,r,h,_,hA=>by
  simp only[pkR,qBs] at h
  grind
 | m+1,p,out,r,h,hp,hA=>by
  unfold pkR at h
  rw[qBR] at h
  obtain ⟨o,ho,h⟩:=h
  rw[qBR] at h
  obtain ⟨d,hd,h⟩:=h
  obtain ⟨o1,o2,o3⟩:=qvR hB hp ho
  have hol:=qx5 hl hB ho
  obtain ⟨d1,d2,d3,d4,d5⟩:=qpJ hl hk hd
  have hn1:(out++[d.1]).length=out.length+1:=by simp
  have hmin:=qnD (pkW (out++[d.1]) B least k out.length) (n:=min B.toNat out.length) (r:=o.1.toNat) (by omega)
  have hW:(pkW (out++[d.1]) B least k out.length o.1.toNat).length=(pkH B o.1.toNat).length+(enc (out.length:Int) d.1 (pkF out out.length o.1.toNat) o.1 least k).length:=by
   unfold pkW
   rw[qBr,qsu (qBw _) (by omega),show ((o.1.toNat:Nat):Int)=o.1 from by omega]
   simp
  have hrec:=qpA hl hB hk m d.2 (out++[d.1]) r h d5 (by
   rw[hn1,pkA,qBr,qst (qBw _)]
   unfold pkN
   omega)
  omega
theorem qAa {least k:Int}(h:pkE g B least k=0):prd (g.length:Int) B least k ((pkA g B least k.toNat g.length).1.length:Int) (pk (pkA g B least k.toNat g.length).1)=(g,0):=by
 obtain ⟨h1,h2,h3⟩:=qhr h
 have hg:=jP.1 h1
 have hgl:=hg.1
 obtain ⟨k1,k2,k',rfl,k3,k4⟩:=qeB h2
 rw[qBo] at h3 ⊢
 have hE:pcE (g.length:Int) B least (k':Int) ((pkA g B least k' g.length).1.length:Int) (pk (pkA g B least k' g.length).1)=0:=by
  grind [pcE,qk2]
 have hr:=qn3 hg h2 h3 [] g.length 0 (by omega)
 have hr':pkR (pkA g B least k' g.length).1 B least k' g.length [] 0=some (g,(pkA g B least k' g.length).1.length):=by
  rw[qBV] at hr
  exact hr
 unfold prd
 rw[if_neg (by omega)]
 simp only[qBo]
 rw[qg0 (qgN _),hr']
 simp_all
theorem qAb {least k m:Int}(hb:U8s b)(h:(prd N B least k m b).2=0):∃ g,prd N B least k m b=(g,0)∧pkE g B least k=0∧N=(g.length:Int)∧m=((pkA g B least k.toNat g.length).1.length:Int)∧b=pk (pkA g B least k.toNat g.length).1:=by
 have h0:=h
 unfold prd at h
 by_cases hE:pcE N B least k m b=0
 ·rw[if_neg (by omega)] at h
  obtain ⟨n,l,rfl,hn,hh,hl,hlm,rfl,rfl⟩:=qvO hb hE
  obtain ⟨k1,k2,k',rfl,k3,k4⟩:=qeB hh
  simp only[qBo,qg0 hl] at h
  cases hr:pkR l B least k' n [] 0 with
  | none=>simp_all
  | some r =>
   rw[hr] at h
   simp only at h
   split at h
   ·rename_i hc
    obtain ⟨c1,c2,c3⟩:=hc
    obtain ⟨g1,g2,g3⟩:=qhr c2
    rw[qBo] at g3
    have hg:=jP.1 g1
    obtain ⟨b1,b2⟩:=qpA hl k1.1 k3 n 0 [] r hr (qBH _) (by simp[pkA])
    rw[qCw,qB9] at b1
    have hq:l=(pkA r.1 B least k' r.1.length).1++l.drop (pkA r.1 B least k' r.1.length).1.length:=by
     have e1:l.take (pkA r.1 B least k' r.1.length).1.length=(pkA r.1 B least k' r.1.length).1:=by
      grind [qxl,qg0,qgN]
     grind [List.take_append_drop]
    have hr2:=qn3 hg hh g3 (l.drop (pkA r.1 B least k' r.1.length).1.length) r.1.length 0 (by omega)
    grind [pkA,prd,qg0]
   omega
 simp_all
def plc (bit:Int):qD0→Nat→Option Nat
 | [],_=>none
 | x::l,i=>if x=bit then (match i with | 0=>some 0 | i+1=>(plc bit l i).map (·+1)) else (plc bit l i).map (·+1)
theorem qlt (bit x:Int)(l:qD0)(i:Nat):plc bit (x::l) i=if x=bit then (match i with | 0=>some 0 | i+1=>(plc bit l i).map (·+1)) else (plc bit l i).map (·+1):=rfl
theorem qn4 {F:Nat}{l:qD0}(hl:Bit l)(hm:l.length≤10000)(bit:Int):∀ (k j i:Nat),l.length<k+j→j≤l.length→i<9223372036854775808 →
  (∃ s,plc bit (l.drop j) i=none∧zj F (fun (x31:Int) (x37:Int)=>q6 F x31 x37) (l.length:Int) (pk l) bit k ((j:Int),(i:Int))=some (.inl s)) ∨
  (∃ a q,plc bit (l.drop j) i=some a∧zj F (fun (x31:Int) (x37:Int)=>q6 F x31 x37) (l.length:Int) (pk l) bit k ((j:Int),(i:Int))=some (.inr (((j+a:Nat):Int),q)))
 | 0,_,_,_,_,_=>by omega
 | k+1,j,i,h,hj,hi=>by
  have e:zj F (fun (x31:Int) (x37:Int)=>q6 F x31 x37) (l.length:Int) (pk l) bit (k+1) ((j:Int),(i:Int)) =
   yM F (fun (x31:Int) (x37:Int)=>q6 F x31 x37) (l.length:Int) (pk l) bit (zj F (fun (x31:Int) (x37:Int)=>q6 F x31 x37) (l.length:Int) (pk l) bit k) (j:Int) (i:Int):=rfl
  rw[e]
  unfold yM
  by_cases hlt:j<l.length
  ·rw[if_pos (by simp_all),qoZ hl (by omega) hlt,qBq hlt,qlt]
   simp only[qBi]
   by_cases h1:l[j]=bit
   ·rw[if_pos h1,if_pos (by grind)]
    cases i with
    | zero =>
     right
     exact ⟨0,0,rfl,rfl⟩
    | succ i =>
     have:q6 F ((i+1:Nat):Int) (j:Int)=some (.inl (i:Int)):=by
      unfold q6
      rw[if_neg (by grind),qdW (by omega) (by omega),qCU]
     rw[this]
     simp only[qBi,Sum.elim_inl,kX]
     rw[qu (by omega)]
     rcases qn4 (F:=F) hl hm bit k (j+1) i (by omega) (by omega) (by omega) with ⟨s,h2,h3⟩ | ⟨a,q,h2,h3⟩
     ·simp_all
     ·right;exact ⟨a+1,q,by simp_all,by grind⟩
   ·rw[if_neg h1,if_neg (by grind)]
    simp only[kX]
    rw[qu (by omega)]
    rcases qn4 (F:=F) hl hm bit k (j+1) i (by omega) (by omega) hi with ⟨s,h2,h3⟩ | ⟨a,q,h2,h3⟩
    ·simp_all
    ·right;exact ⟨a+1,q,by simp_all,by grind⟩
  ·rw[if_neg (by simp_all),qBu (by omega)]
   left;exact ⟨_,rfl,rfl⟩
theorem qls (hF:20000≤F){l:qD0}(hl:Bit l)(hm:l.length≤10000){bit:Int}{i:Nat}(hi:i<9223372036854775808) :
  qax F (l.length:Int) (pk l) bit (i:Int)=some (match plc bit l i with | none=>-1 | some a=>(a:Int)):=by
 unfold qax
 simp only[qdR,qBi,qck]
 rcases qn4 (F:=F) hl hm bit F 0 i (by omega) (by omega) hi with ⟨s,h2,h3⟩ | ⟨a,q,h2,h3⟩
 ·rw[qB1] at h2
  rw[show ((0:Nat):Int)=0 from rfl] at h3
  rw[h3,h2];rfl
 ·rw[qB1] at h2
  rw[show ((0:Nat):Int)=0 from rfl] at h3
  rw[h3,h2,qB9];rfl
theorem qo1:Bit []:=by intro x hx;grind
theorem qqS {n m:Nat}(hm:m≤62)(h:n*2^m<9223372036854775808):ishl .i64 (n:Int) (m:Int)=((n*2^m:Nat):Int):=by
 unfold ishl
 have h1:min ((m:Int).toNat) (IntKind.bits .i64)=m:=by grind [IntKind.bits]
 grind [yb]
theorem qqU {n m:Nat}(hm:m≤62):ishr .i64 (n:Int) (m:Int)=((n/2^m:Nat):Int):=by
 grind [qhB,IntKind.bits]
theorem qzT {n m:Nat}(hm:m≤62)(hn:n<9223372036854775808):iand .i64 (n:Int) ((2^m-1:Nat):Int)=((n%2^m:Nat):Int):=by
 unfold iand
 have h1:(qBS (IntKind.bits .i64) (n:Int))=qBI 64 n:=by rfl
 have h2:(qBS (IntKind.bits .i64) ((2^m-1:Nat):Int))=qBI 64 (2^m-1):=by rfl
 have h3:2^m≤2^62:=qBW (by decide) hm
 rw[show (2:Nat)^62=4611686018427387904 from by decide] at h3
 rw[h1,h2]
 have h4:(qBI 64 n &&& qBI 64 (2^m-1)).toNat=n%2^m:=by
  grind [Nat.and_two_pow_sub_one_eq_mod]
 show IntKind.wrap .i64 ((qBI 64 n &&& qBI 64 (2^m-1)).toNat:Int)=_
 rw[h4]
 have:=Nat.mod_le n (2^m)
 grind [yb]
theorem qnP {a b:Nat}(h:a*b<9223372036854775808):imul .i64 (a:Int) (b:Int)=((a*b:Nat):Int):=by
 grind [imul,yb]
def wd (n t:Nat):Nat:=if n=0 then 0 else len ((t+1)/n)-1
theorem qyR {n t w:Nat}(hn:n≠0):n*2^(w+1)≤t+1↔w<wd n t:=by
 unfold wd
 rw[if_neg hn]
 have h1:=qfi (x:=(t+1)/n) (k:=w+1)
 have h2:=Nat.le_div_iff_mul_le (x:=2^(w+1)) (y:=t+1) (k:=n) (by omega)
 grind
theorem qqc {n t:Nat}(ht:t≤1048576):wd n t≤20:=by
 unfold wd
 split
 ·omega
 ·have h1:(t+1)/n≤t+1:=qCx _ _
  have h2:len ((t+1)/n)≤21:=qfi.2 (by omega)
  omega
theorem qs8 {F n t:Nat}(hn:n≤300)(ht:t≤1048576):∀ (k w:Nat),wd n t<k+w→w≤wd n t →
  qbO F (n:Int) (t:Int) k (w:Int)=some ((wd n t:Nat):Int)
 | 0,_,_,_=>by omega
 | k+1,w,h,hw=>by
  show qdw F (n:Int) (t:Int) (qbO F (n:Int) (t:Int) k) (w:Int)=_
  unfold qdw
  have h20:=qqc (n:=n) ht
  by_cases h0:n=0
  ·subst h0
   have:wd 0 t=0:=rfl
   rw[if_neg (by simp)]
   unfold jY
   rw[if_neg (by simp)]
   obtain rfl:w=0:=by omega
   rfl
  ·have hp:2^(w+1)≤2^21:=qBW (by decide) (by omega)
   have hm:n*2^(w+1)≤300*2^21:=qDe hn hp
   rw[show (300:Nat)*2^21=629145600 from by decide] at hm
   have hc:decide ((0:Int)≤((w+1:Nat):Int))=true:=decide_eq_true (by omega)
   rw[if_pos (by grind),qu (by omega),hc]
   simp only[chk,if_true]
   rw[qqS (by omega) (by omega),qu (by omega)]
   unfold jY
   have hs:=qyR (n:=n) (t:=t) (w:=w) h0
   by_cases hlt:w<wd n t
   ·rw[if_pos (by grind),qu (by omega)]
    exact qs8 hn ht k (w+1) (by omega) (by omega)
   ·rw[if_neg (by grind)]
    obtain rfl:w=wd n t:=by omega
    rfl
theorem qqe {n t:Nat}(hF:20000≤F)(hn:n≤300)(ht:t≤1048576):qcS F (n:Int) (t:Int)=some ((wd n t:Nat):Int):=by
 unfold qcS
 have:=qqc (n:=n) ht
 exact qs8 hn ht F 0 (by omega) (by omega)
def fk (t:Int):Int→qD0→Int
 | _,[]=>0
 | last,n::l=>if 0≤n∧n≤t then (if n<last then 4 else fk t n l) else 3
def fkc (l:qD0)(t:Int):Int:=if 0≤t∧t≤1048576 then (if 300<l.length then 2 else fk t 0 l) else 3
theorem qpf {F:Nat}{t:Int}{l:qD0}(hm:l.length≤300):∀ (k i:Nat) (last:Int),l.length<k+i→i≤l.length →
  qep F l t k (last,(i:Int))=some (fk t last (l.drop i))
 | 0,_,_,_,_=>by omega
 | k+1,i,last,h,hi=>by
  show qeo F l t (qep F l t k) last (i:Int)=_
  unfold qeo
  by_cases hlt:i<l.length
  ·rw[if_pos (by simp_all),qo,qBk hlt,qBq hlt,fk]
   simp only[qBi]
   by_cases h1:0≤l[i]∧l[i]≤t
   ·rw[if_pos h1,if_neg (by simp_all)]
    by_cases h2:l[i]<last
    ·simp_all
    ·rw[if_neg h2,if_neg (by grind),qu (by omega)]
     exact qpf hm k (i+1) _ (by omega) (by omega)
   grind
  ·rw[if_neg (by simp_all),qBu (by omega)]
   rfl
theorem qmD (hF:20000≤F){l:qD0}:qcN F l t=some (fkc l t):=by
 unfold qcN fkc
 by_cases h1:0≤t∧t≤1048576
 ·rw[if_pos h1,if_neg (by simp_all)]
  by_cases h:300<l.length
  ·grind
  ·rw[if_neg h,if_neg (by grind)]
   exact qpf (by omega) F 0 0 (by omega) (by omega)
 grind
def Up (t:Nat):Nat→List Nat→Prop
 | _,[]=>True
 | last,n::l=>last≤n∧n≤t∧Up t n l
def lc (l:List Nat):qD0:=l.map fun x:Nat=>(x:Int)
theorem qhn (l:List Nat):(lc l).length=l.length:=by simp[lc]
theorem qy1 {t:Nat}:∀ {l:qD0} {last:Nat},fk (t:Int) (last:Int) l=0↔∃ ns,l=lc ns∧Up t last ns
 | [],last=>by
  constructor
  ·intro _;exact ⟨[],rfl,trivial⟩
  ·intro _;rfl
 | n::l,last=>by
  unfold fk
  by_cases h1:0≤n∧n≤(t:Int)
  ·rw[if_pos h1]
   obtain ⟨n,rfl⟩:=qBm h1.1
   by_cases h2:(n:Int)<(last:Int)
   ·rw[if_pos h2]
    constructor
    ·omega
    ·rintro ⟨ns,e,hu⟩
     cases ns with
     | nil=>simp[lc] at e
     | cons m ns=>simp[lc] at e;have:=hu.1;omega
   ·rw[if_neg h2,qy1]
    constructor
    ·rintro ⟨ns,rfl,hu⟩;exact ⟨n::ns,rfl,by omega,by omega,hu⟩
    ·rintro ⟨ns,e,hu⟩
     cases ns with
     | nil=>simp[lc] at e
     | cons m ns =>
      simp[lc] at e
      obtain ⟨e1,rfl⟩:=e
      obtain rfl:n=m:=by omega
      exact ⟨ns,rfl,hu.2.2⟩
  ·rw[if_neg h1]
   constructor
   ·omega
   ·rintro ⟨ns,e,hu⟩
    cases ns with
    | nil=>simp[lc] at e
    | cons m ns =>
     simp[lc] at e
     have:=hu.2.1
     omega
theorem qjF {l:qD0}:fkc l t=0↔∃ (ns:List Nat) (k:Nat),t=k∧k≤1048576∧l=lc ns∧ns.length≤300∧Up k 0 ns:=by
 unfold fkc
 by_cases h1:0≤t∧t≤1048576
 ·rw[if_pos h1]
  obtain ⟨t,rfl⟩:=qBm h1.1
  by_cases h:300<l.length
  ·rw[if_pos h]
   constructor
   ·omega
   ·rintro ⟨ns,k,_,_,rfl,h3,_⟩;rw[qhn] at h;omega
  ·rw[if_neg h]
   have:=qy1 (t:=t) (l:=l) (last:=0)
   rw[show ((0:Nat):Int)=0 from rfl] at this
   rw[this]
   constructor
   ·rintro ⟨ns,rfl,hu⟩;exact ⟨ns,t,rfl,by omega,rfl,by rw[qhn] at h;omega,hu⟩
   grind
 omega
theorem qw8 {t:Nat}:∀ {l:List Nat} {a:Nat},Up t a l→∀ x∈l,a≤x∧x≤t
 | [],_,_=>by simp
 | n::l,a,h=>by
  intro x hx
  rcases qBp.1 hx with rfl | hx
  ·exact ⟨h.1,h.2.1⟩
  ·have:=qw8 h.2.2 x hx;have:=h.1;omega
def lo' (w:Nat)(l:List Nat):qD0:=l.flatMap fun x=>nb x w
theorem qho (w x:Nat)(l:List Nat):lo' w (x::l)=nb x w++lo' w l:=rfl
theorem qsl (w:Nat):∀ l:List Nat,(lo' w l).length=l.length*w
 | []=>by simp[lo']
 | x::l=>by rw[qho,qBr,qdf,qsl w l,qBQ,qB4,qDX,qCZ]
theorem qkx (w:Nat):∀ l:List Nat,Bit (lo' w l)
 | []=>by intro x hx;simp[lo'] at hx
 | x::l=>by rw[qho];exact vi (qlm _ _) (qkx w l)
def hp (w last:Nat):Nat→List Nat→qD0
 | a,[]=>qBj (last-a) 0
 | a,x::l=>qBj (x/2^w-a) 0++(1::hp w last (x/2^w) l)
theorem qlc (w last:Nat):∀ (a:Nat) (l:List Nat),Bit (hp w last a l)
 | a,[]=>qgF _
 | a,x::l=>by
  rw[hp]
  exact vi (qgF _) (by
   intro y hy
   rcases qBp.1 hy with rfl | hy
   ·omega
   ·exact qlc w last _ l y hy)
theorem qvj {w t:Nat}:∀ {a:Nat} {l:List Nat},Up t a l→(hp w (t/2^w+1) (a/2^w) l).length=l.length+(t/2^w+1-a/2^w)
 | a,[],_=>by simp[hp]
 | a,x::l,h=>by
  have h1:a/2^w≤x/2^w:=qCy h.1
  have h2:x/2^w≤t/2^w:=qCy h.2.1
  have:=qvj (w:=w) h.2.2
  grind [hp]
def loF (t:Nat)(l:List Nat):qD0:=lo' (wd l.length t) l
def hiF (t:Nat)(l:List Nat):qD0:=hp (wd l.length t) (t/2^wd l.length t+1) 0 l
theorem qgJ (t:Nat)(l:List Nat):(loF t l).length=l.length*wd l.length t:=qsl _ _
theorem qi6 {t:Nat}{l:List Nat}(h:Up t 0 l):(hiF t l).length=l.length+(t/2^wd l.length t+1):=by
 have:=qvj (w:=wd l.length t) h
 rw[Nat.zero_div,Nat.sub_zero] at this
 exact this
def Fits (t:Nat)(l:List Nat):Prop:=l.length*wd l.length t≤8192∧l.length+(t/2^wd l.length t+1)≤8192
instance fitsDec (t:Nat) (l:List Nat):Decidable (Fits t l):=inferInstanceAs (Decidable (_∧_))
theorem qwb {F:Nat}(hF:20000≤F){to:Nat}(hto:to≤10000):∀ (k a:Nat) (l:qD0),to<k+a→a≤to→Bit l→l.length+(to-a)≤8192 →
  qa3 F (to:Int) k ((l.length:Int),pk l,(a:Int))=some (((l++qBj (to-a) 0).length:Int),pk (l++qBj (to-a) 0),(to:Int))
 | 0,_,_,_,_,_,_=>by omega
 | k+1,a,l,h,ha,hl,hm=>by
  show qa2 F (to:Int) (qa3 F (to:Int) k) (l.length:Int) (pk l) (a:Int)=_
  unfold qa2
  by_cases hlt:a<to
  ·have hadd:=qim (F:=F) (n:=0) (w:=1) (l:=l) (by decide) (by omega) hl (by omega) (by decide)
   rw[show ((0:Nat):Int)=0 from rfl,show ((1:Nat):Int)=1 from rfl,show nb 0 1=[0] from rfl] at hadd
   rw[if_pos (by simp_all),hadd]
   simp only[qBi]
   rw[qu (by omega),qwb hF hto k (a+1) (l++[0]) (by omega) (by omega) (vi hl (qgF 1)) (by grind)]
   have e:l++[0]++qBj (to-(a+1)) 0=l++qBj (to-a) 0:=by
    rw[qBt,show to-a=(to-(a+1))+1 from by omega,qCq];rfl
   rw[e]
  ·rw[if_neg (by simp_all),show to-a=0 from by omega]
   grind
theorem qsK (hF:20000≤F){to a:Nat}{l:qD0}(ha:a≤to)(hto:to≤10000)(hl:Bit l)(hm:l.length+(to-a)≤8192) :
  vC F (l.length:Int) (pk l) (a:Int) (to:Int)=some (((l++qBj (to-a) 0).length:Int),pk (l++qBj (to-a) 0),(to:Int)):=by
 grind [vC,qwb]
def T8 (t:Nat)(l:List Nat)(e:Bool):Int×Int×Int×Int×qD0×Int×qD0×Bool :=
 ((l.length:Int),(t:Int),(wd l.length t:Int),((loF t l).length:Int),pk (loF t l),((hiF t l).length:Int),pk (hiF t l),e)
theorem qzd {F w t:Nat}(hF:20000≤F)(hw:w≤20)(ht:t≤1048576){l:List Nat}(hlm:l.length≤300)(f1:l.length*w≤8192)(f2:l.length+(t/2^w+1)≤8192):∀ (k i:Nat) (q:Nat) (L H:qD0),l.length<k+i→i≤l.length→Up t q (l.drop i)→Bit L→Bit H→L.length+(l.length-i)*w≤8192→H.length+(l.length-i)+(t/2^w+1-q/2^w)≤8192→q≤t →
  qfS F (lc l) (t:Int) (w:Int) k ((i:Int),(H.length:Int),pk H,((q/2^w:Nat):Int),(L.length:Int),pk L) =
   some ((l.length:Int),(t:Int),(w:Int),((L++lo' w (l.drop i)).length:Int),pk (L++lo' w (l.drop i)),((H++hp w (t/2^w+1) (q/2^w) (l.drop i)).length:Int),pk (H++hp w (t/2^w+1) (q/2^w) (l.drop i)),true)
 | 0,_,_,_,_,_,_,_,_,_,_,_,_=>by omega
 | k+1,i,q,L,H,h,hi,hu,hL,hH,hLm,hHm,hq=>by
  show qfQ F (lc l) (t:Int) (w:Int) (qfS F (lc l) (t:Int) (w:Int) k) (i:Int) (H.length:Int) (pk H) ((q/2^w:Nat):Int) (L.length:Int) (pk L)=_
  unfold qfQ
  have hqt:q/2^w≤t/2^w:=qCy hq
  by_cases hlt:i<l.length
  ·rw[qBq hlt] at hu ⊢
   have hx1:=hu.1;have hx2:=hu.2.1;have hx3:=hu.2.2
   have hg:(lc l)[i]?=some ((l[i]:Nat):Int):=by simp[lc,hlt]
   have hc:decide ((0:Int)≤(w:Int))=true:=decide_eq_true (by omega)
   have hp20:2^w≤2^20:=qBW (by decide) hw
   rw[show (2:Nat)^20=1048576 from by decide] at hp20
   have hp0:0<2^w:=Nat.pow_pos (by decide)
   have e1:ishl .i64 1 (w:Int)=((2^w:Nat):Int):=by
    have:=qqS (n:=1) (m:=w) (by omega) (by omega)
    simp_all
   have hd1:q/2^w≤l[i]/2^w:=qCy hx1
   have hd2:l[i]/2^w≤t/2^w:=qCy hx2
   have hsplit:(l.length-i)*w=w+(l.length-(i+1))*w:=by
    rw[show l.length-i=(l.length-(i+1))+1 from by omega,qB4,qDX,qCZ]
   rw[qhn,if_pos (by simp_all),qo,hg]
   simp only[qBi]
   rw[hc]
   simp only[chk,if_true]
   have hmod:l[i]%2^w<18446744073709551616:=by omega
   rw[e1,qdW (by omega) (by omega),qzT (by omega) (by omega),vu hmod,qim hmod (by omega) hL (by omega) (by omega),qvC (qBw _)]
   simp only[qBi]
   rw[qqU (by omega),qsK hF hd1 (by omega) hH (by omega)]
   simp only[qBi]
   have hadd:=qim (F:=F) (n:=1) (w:=1) (l:=H++qBj (l[i]/2^w-q/2^w) 0) (by decide) (by omega) (vi hH (qgF _)) (by grind) (by decide)
   rw[show ((1:Nat):Int)=1 from rfl,show nb 1 1=[1] from rfl] at hadd
   rw[hadd]
   simp only[qBi]
   rw[qu (by omega)]
   rw[qzd hF hw ht hlm f1 f2 k (i+1) l[i] (L++nb l[i] w) (H++qBj (l[i]/2^w-q/2^w) 0++[1]) (by omega) (by omega) hx3 (vi hL (qlm _ _)) (vi (vi hH (qgF _)) qrR) (by grind [qdf]) (by grind) hx2]
   grind [hp,qho]
  ·rw[qhn,if_neg (by simp_all),qBu (by omega)]
   unfold qfR
   rw[qqU (by omega),qu (by omega),qsK hF (by omega) (by omega) hH (by omega)]
   simp[lo',hp,qhn]
theorem qr7 {t:Nat}(hF:20000≤F)(ht:t≤1048576){l:List Nat}(hlm:l.length≤300)(hu:Up t 0 l) :
  qe5 F (lc l) (t:Int)=some (if Fits t l then T8 t l true else (0,0,0,0,[],0,[],false)):=by
 unfold qe5
 have hw:=qqc (n:=l.length) ht
 have hc:decide ((0:Int)≤((wd l.length t:Nat):Int))=true:=decide_eq_true (by omega)
 have hdt:t/2^wd l.length t≤t:=qCx _ _
 have hmul:l.length*wd l.length t≤300*20:=qDe hlm hw
 rw[qhn,qqe hF hlm ht]
 simp only[qBi]
 rw[hc]
 simp only[chk,if_true]
 rw[qnP (by omega),qqU (by omega),qu (by omega),qb0 (by omega)]
 by_cases hf:Fits t l
 ·rw[if_neg (by have h1:=hf.1;have h2:=hf.2;grind),if_pos hf]
  have:=qzd (F:=F) hF hw ht hlm hf.1 hf.2 F 0 0 [] [] (by omega) (by omega) (by simp_all) qo1 qo1 (by grind) (by simp;exact hf.2) (by omega)
  rw[qB1,qBF,qBF,Nat.zero_div] at this
  exact this
 ·rw[if_pos (by unfold Fits at hf;grind),if_neg hf]
def nl (l:qD0):List Nat:=l.map Int.toNat
theorem qvF (l:List Nat):nl (lc l)=l:=by
 induction l with
 | nil=>rfl
 | cons x l ih=>grind [nl,lc]
abbrev F8:=Int×Int×Int×Int×qD0×Int×qD0×Int
def fz8 (e:Int):F8:=(0,0,0,0,[],0,[],e)
def fo8 (t:Nat)(l:List Nat):F8:=((l.length:Int),(t:Int),(wd l.length t:Int),((loF t l).length:Int),pk (loF t l),((hiF t l).length:Int),pk (hiF t l),0)
def fw (l:qD0)(t:Int):F8:=if fkc l t≠0 then fz8 (fkc l t) else if Fits t.toNat (nl l) then fo8 t.toNat (nl l) else fz8 8
theorem qu8 {l:qD0}(h:fkc l t≠0):fw l t=fz8 (fkc l t):=by grind [fw]
theorem qkw {l:List Nat}{t:Nat}(ht:t≤1048576)(hlm:l.length≤300)(hu:Up t 0 l):fkc (lc l) (t:Int)=0∧fw (lc l) (t:Int)=if Fits t l then fo8 t l else fz8 8:=by
 have h:fkc (lc l) (t:Int)=0:=qjF.2 ⟨l,t,rfl,ht,rfl,hlm,hu⟩
 grind [fw,qvF]
theorem qty (hF:20000≤F){l:qD0}:qcM F l t=some (fw l t):=by
 unfold qcM
 rw[qmD hF]
 simp only[qBi]
 by_cases h:fkc l t=0
 ·obtain ⟨ns,k,rfl,hk,rfl,hm,hu⟩:=qjF.1 h
  rw[(qkw hk hm hu).2,h,if_neg (by simp),qr7 hF hk hm hu]
  simp only[qBi]
  by_cases hf:Fits k ns
  ·rw[if_pos hf,if_pos hf];rfl
  ·rw[if_neg hf,if_neg hf];rfl
 ·rw[if_pos (by grind),qu8 h];rfl
theorem qsy (k:Nat)(r:qD0)(i:Nat):plc 1 (qBj k 0++r) i=(plc 1 r i).map (·+k):=by
 induction k with
 | zero=>simp
 | succ k ih =>
  rw[qCq,qCb,qlt,if_neg (by decide),ih,Option.map_map]
  congr 1
theorem qvV {w last:Nat}:∀ {l:List Nat} {a i:Nat},(∀ x∈l,a≤x/2^w)→(∀ j x,l[j]?=some x→∀ y∈l.drop (j+1),x/2^w≤y/2^w) →
  plc 1 (hp w last a l) i=(l[i]?).map fun x=>x/2^w-a+i
 | [],a,i,_,_=>by
  have:=qsy (last-a) [] i
  rw[qBV] at this
  rw[hp,this];rfl
 | x::l,a,i,h,hs=>by
  have hx:=h x qBv
  rw[hp,qsy,qlt,if_pos rfl]
  cases i with
  | zero=>simp
  | succ i =>
   simp only
   have h0:=hs 0 x rfl
   rw[qC7,qB1] at h0
   rw[qvV (a:=x/2^w) h0 (fun j y hj=>by
    have:=hs (j+1) y (by grind)
    simp_all)]
   simp only[List.getElem?_cons_succ,Option.map_map]
   cases hl:l[i]? with
   | none=>rfl
   | some y =>
    have:=h0 y (qBl hl)
    grind
theorem qoz {t w:Nat}:∀ {l:List Nat} {a:Nat},Up t a l→∀ j x,l[j]?=some x→∀ y∈l.drop (j+1),x/2^w≤y/2^w
 | [],_,_,j,x,h=>by simp
 | n::l,a,h,0,x,hx=>by
  simp at hx;subst hx
  intro y hy
  rw[qC7,qB1] at hy
  exact qCy (qw8 h.2.2 y hy).1
 | n::l,a,h,j+1,x,hx=>by
  intro y hy
  rw[qC7] at hy
  exact qoz h.2.2 j x (by grind) y hy
theorem qsx {t:Nat}{l:List Nat}(h:Up t 0 l)(i:Nat):plc 1 (hiF t l) i=(l[i]?).map fun x=>x/2^wd l.length t+i:=by
 unfold hiF
 rw[qvV (fun x _=>qBH _) (qoz h)]
 simp
theorem qq0 {w:Nat}:∀ {l:List Nat} {i x:Nat},l[i]?=some x→((lo' w l).drop (i*w)).take w=nb x w
 | [],i,x,h=>by grind
 | y::l,0,x,h=>by
  simp_all [qho,qdf]
 | y::l,i+1,x,h=>by
  rw[qho,qB4,qDX,qCZ,← List.drop_drop,List.drop_left' (qdf _ _)]
  exact qq0 (by grind)
theorem qAT {a b m:Nat}(ha:a<2^m)(hb:b%2^m=0)(h:a+b<9223372036854775808):ior .i64 (b:Int) (a:Int)=((b+a:Nat):Int):=by
 unfold ior
 have h1:(qBS (IntKind.bits .i64) (b:Int))=qBI 64 b:=by rfl
 have h2:(qBS (IntKind.bits .i64) (a:Int))=qBI 64 a:=by rfl
 rw[h1,h2]
 have h3:b ||| a=b+a:=by
  have hy2:b=2^m*(b/2^m):=by grind [qDa]
  grind [Nat.two_pow_add_eq_or_of_lt]
 have h4:(qBI 64 b ||| qBI 64 a).toNat=b+a:=by
  grind
 show IntKind.wrap .i64 ((qBI 64 b ||| qBI 64 a).toNat:Int)=_
 grind [yb]
theorem qu2 {t i x:Nat}(hF:20000≤F)(ht:t≤1048576){l:List Nat}(hlm:l.length≤300)(hu:Up t 0 l)(hf:Fits t l)(hx:l[i]?=some x) :
  qbN F (l.length:Int) (t:Int) (wd l.length t:Int) ((loF t l).length:Int) (pk (loF t l)) ((hiF t l).length:Int) (pk (hiF t l)) (i:Int)=some (x:Int):=by
 unfold qbN
 have hw:=qqc (n:=l.length) ht
 have hi:i<l.length:=(List.getElem?_eq_some_iff.1 hx).1
 have hL:(loF t l).length≤8192:=by rw[qgJ];exact hf.1
 have hH:(hiF t l).length≤8192:=by rw[qi6 hu];exact hf.2
 have hxt:=(qw8 hu x (qBl hx)).2
 have hmul:i*wd l.length t+wd l.length t≤(loF t l).length:=by
  rw[qgJ,← Nat.succ_mul];exact qBN _ hi
 rw[qls hF (l:=hiF t l) (qlc _ _ _ _) (by omega) (by omega),qsx hu,hx]
 simp only[Option.map_some,qBi]
 have hdx:x/2^wd l.length t≤x:=qCx _ _
 have hz:0≤x/2^wd l.length t:=qBH _
 rw[qnP (by omega),qgP (l:=loF t l) (by omega) (qkx _ _) hL (by omega) (by omega),if_pos hmul]
 simp only[qBi]
 have hc:decide ((0:Int)≤((wd l.length t:Nat):Int))=true:=decide_eq_true (by omega)
 rw[hc]
 simp only[chk,if_true,lett]
 have hg:((loF t l).drop (i*wd l.length t)).take (wd l.length t)=nb x (wd l.length t):=qq0 hx
 have hp20:2^wd l.length t≤2^20:=qBW (by decide) hw
 rw[show (2:Nat)^20=1048576 from by decide] at hp20
 have hml:=Nat.mod_lt x (show 0<2^wd l.length t from Nat.pow_pos (by decide))
 have hdm:=qDa x (2^wd l.length t)
 have hdm2:x/2^wd l.length t*2^wd l.length t≤x:=Nat.div_mul_le_self _ _
 rw[hg,qkY,qqV (by omega) (by omega),qCU,qqS (by omega) (by omega),qeb (by omega),qAT (m:=wd l.length t) hml (Nat.mul_mod_left _ _) (by omega)]
 grind
theorem qjS {F:Nat}{l:qD0}(hl:Bit l)(hm:l.length≤10000)(bit:Int):∀ (k j c:Nat),l.length<k+j→j≤l.length→1≤c→c+(l.length-j)≤100000 →
  ∃ s,zj F (fun (x31:Int) (x37:Int)=>q6 F x31 x37) (l.length:Int) (pk l) bit k ((j:Int),-(c:Int))=some (.inl s)
 | 0,_,_,_,_,_,_=>by omega
 | k+1,j,c,h,hj,hc,hcm=>by
  have e:zj F (fun (x31:Int) (x37:Int)=>q6 F x31 x37) (l.length:Int) (pk l) bit (k+1) ((j:Int),-(c:Int)) =
   yM F (fun (x31:Int) (x37:Int)=>q6 F x31 x37) (l.length:Int) (pk l) bit (zj F (fun (x31:Int) (x37:Int)=>q6 F x31 x37) (l.length:Int) (pk l) bit k) (j:Int) (-(c:Int)):=rfl
  rw[e]
  unfold yM
  by_cases hlt:j<l.length
  ·rw[if_pos (by simp_all),qoZ hl (by omega) hlt]
   simp only[qBi]
   have hr:q6 F (-(c:Int)) (j:Int)=some (.inl (-((c+1:Nat):Int))):=by
    grind [q6,zN]
   by_cases h1:l[j]=bit
   ·rw[if_pos (by grind),hr]
    simp only[qBi,Sum.elim_inl,kX]
    rw[qu (by omega)]
    exact qjS hl hm bit k (j+1) (c+1) (by omega) (by omega) (by omega) (by omega)
   ·rw[if_neg (by grind)]
    simp only[kX]
    rw[qu (by omega)]
    exact qjS hl hm bit k (j+1) c (by omega) (by omega) hc (by omega)
  ·rw[if_neg (by simp_all)]
   simp
theorem qvU (hF:20000≤F){l:qD0}(hl:Bit l)(hm:l.length≤10000){bit:Int}:qax F (l.length:Int) (pk l) bit (-1)=some (-1):=by
 unfold qax
 simp only[qdR,qBi,qck]
 obtain ⟨s,hs⟩:=qjS (F:=F) hl hm bit F 0 1 (by omega) (by omega) (by omega) (by omega)
 simp_all
theorem qu3 {F:Nat}{xs ys:qD0}(he:xs.length=ys.length)(hm:xs.length≤9223372036854775807):∀ (k i:Nat),xs.length<k+i→i≤xs.length→kd F xs ys k (i:Int)=some (decide (xs.drop i=ys.drop i))
 | 0,_,_,_=>by omega
 | k+1,i,h,hi=>by
  show ka F xs ys (kd F xs ys k) (i:Int)=_
  unfold ka
  by_cases hlt:i<xs.length
  ·have hlt':i<ys.length:=by omega
   rw[if_pos (by simp_all),qo,qBk hlt,qo,qBk hlt']
   simp only[qBi]
   rw[qBq hlt,qBq hlt']
   by_cases hc:xs[i]=ys[i]
   ·rw[if_neg (by grind),qu (by omega),qu3 he hm k (i+1) (by omega) (by omega)]
    congr 1
    grind
   grind [List.cons.inj]
  ·rw[if_neg (by simp_all),qBu (by omega),qBu (by omega)]
   rfl
theorem feqb {xs ys:qD0}(hF:xs.length<F)(hm:xs.length≤9223372036854775807):qX F xs ys=some (decide (xs=ys)):=by
 unfold qX
 by_cases h:xs.length=ys.length
 ·rw[if_neg (by grind)]
  have:=qu3 (F:=F) h hm F 0 (by omega) (qBH _)
  simp_all
 ·rw[if_pos (by grind),decide_eq_false (fun e=>h (by rw[e]))]
theorem qpl {n m:Int}{xs ys:qD0}(hF:xs.length<F)(hm:xs.length≤9223372036854775807):qd6 F n xs m ys=some (decide (n=m∧xs=ys)):=by
 grind [qd6,feqb,qcR]
def FWr (t:Nat)(ns:List Nat)(lw:Int)(lb:qD0)(hw:Int)(hb:qD0):Prop :=
 ns.length≤300∧Up t 0 ns∧Fits t ns∧lw=((loF t ns).length:Int)∧lb=pk (loF t ns)∧hw=((hiF t ns).length:Int)∧hb=pk (hiF t ns)
theorem qAX {t:Nat}(hF:20000≤F)(ht:t≤1048576){out:qD0} :
  (∃ ns,out=lc ns∧FWr t ns lw lb hw hb∧vb F (t:Int) lw lb hw hb out=some (out,0)) ∨
  ((¬ ∃ ns,out=lc ns∧FWr t ns lw lb hw hb)∧vb F (t:Int) lw lb hw hb out=some ([],1)):=by
 unfold vb
 rw[qmD hF]
 simp only[qBi]
 by_cases h:fkc out (t:Int)=0
 ·obtain ⟨ns,k,e,hk,rfl,hm,hu⟩:=qjF.1 h
  obtain rfl:t=k:=by omega
  rw[h,if_neg (by simp),qr7 hF hk hm hu]
  simp only[qBi]
  have huniq:∀ ns',lc ns=lc ns'→ns=ns':=fun ns' e=>by have:=congrArg nl e;grind [qvF]
  by_cases hf:Fits t ns
  ·have hL:(loF t ns).length≤8192:=by rw[qgJ];exact hf.1
   have hH:(hiF t ns).length≤8192:=by rw[qi6 hu];exact hf.2
   have hpL:=qpB hL
   have hpH:=qpB hH
   rw[if_pos hf]
   simp only[T8,qCe,qBy,if_false]
   rw[qpl (by omega) (by omega)]
   simp only[qBi]
   by_cases h1:((loF t ns).length:Int)=lw∧pk (loF t ns)=lb
   ·rw[decide_eq_true h1]
    simp only[qCe,qbd,qBy,if_false]
    rw[qpl (by omega) (by omega)]
    simp only[qBi]
    by_cases h2:((hiF t ns).length:Int)=hw∧pk (hiF t ns)=hb
    ·rw[decide_eq_true h2]
     left
     exact ⟨ns,rfl,⟨hm,hu,hf,h1.1.symm,h1.2.symm,h2.1.symm,h2.2.symm⟩,rfl⟩
    ·rw[decide_eq_false h2]
     right
     refine ⟨?_,rfl⟩
     rintro ⟨ns',e1,w⟩
     rw[← huniq ns' e1] at w
     exact h2 ⟨w.2.2.2.2.2.1.symm,w.2.2.2.2.2.2.symm⟩
   ·rw[decide_eq_false h1]
    right
    refine ⟨?_,rfl⟩
    rintro ⟨ns',e1,w⟩
    rw[← huniq ns' e1] at w
    exact h1 ⟨w.2.2.2.1.symm,w.2.2.2.2.1.symm⟩
  ·rw[if_neg hf]
   right
   refine ⟨?_,rfl⟩
   rintro ⟨ns',e1,w⟩
   rw[← huniq ns' e1] at w
   exact hf w.2.2.1
 ·rw[if_pos (by grind)]
  right
  refine ⟨?_,rfl⟩
  rintro ⟨ns,rfl,w⟩
  exact h (qjF.2 ⟨ns,t,rfl,ht,rfl,w.1,w.2.1⟩)
def Good (l:List Nat)(n t w lw:Int)(lb:qD0)(hw:Int)(hb:qD0):Prop :=
 ∃ k:Nat,t=k∧k≤1048576∧n=(l.length:Int)∧w=((wd l.length k:Nat):Int)∧FWr k l lw lb hw hb
def Rg (n t:Int):Prop:=0≤n∧n≤300∧0≤t∧t≤1048576
instance rgDec (n t:Int):Decidable (Rg n t):=inferInstanceAs (Decidable (_∧_))
theorem qxM {l:List Nat}{n:Int}(h:Good l n t w lw lb hw hb):Rg n t:=by
 obtain ⟨k,rfl,hk,rfl,_,h1,_⟩:=h
 exact ⟨by omega,by omega,by omega,by omega⟩
theorem qvI {F t n w:Nat}{lw hw:Int}{lb hb:qD0}(f:Nat→Int)(hn:n≤300)(hat:∀ i,i<n→qbN F (n:Int) (t:Int) (w:Int) lw lb hw hb (i:Int)=some (f i)):∀ (k i:Nat),n<k+i→i≤n →
  qcQ F (n:Int) (t:Int) (w:Int) lw lb hw hb k ((qBx i).map f,(i:Int))=vb F (t:Int) lw lb hw hb ((qBx n).map f)
 | 0,_,_,_=>by omega
 | k+1,i,h,hi=>by
  show qcO F (n:Int) (t:Int) (w:Int) lw lb hw hb (qcQ F (n:Int) (t:Int) (w:Int) lw lb hw hb k) ((qBx i).map f) (i:Int)=_
  unfold qcO
  by_cases hlt:i<n
  ·rw[if_pos (by simp_all),hat i hlt]
   simp only[qBi]
   rw[kG (by grind),qu (by omega)]
   simp only[qBi]
   have e:(qBx i).map f++[f i]=(qBx (i+1)).map f:=by grind [qDb]
   rw[e]
   exact qvI f hn hat k (i+1) (by omega) (by omega)
  grind
theorem qmn (hF:20000≤F){n:Int}(ul:U8s lb)(uh:U8s hb)(il:I64 lw)(ih:I64 hw)(ll:lb.length≤9223372036854775807)(lh:hb.length≤9223372036854775807) :
  (∃ l,Good l n t w lw lb hw hb∧jX F n t w lw lb hw hb=some (lc l,0)) ∨
  ((¬ ∃ l,Good l n t w lw lb hw hb)∧jX F n t w lw lb hw hb=some ([],if Rg n t then 1 else 3)):=by
 unfold jX
 by_cases hr:Rg n t
 ·obtain ⟨n,rfl⟩:=qBm hr.1
  obtain ⟨t,rfl⟩:=qBm hr.2.2.1
  have hn:n≤300:=by have:=hr.2.1;omega
  have ht:t≤1048576:=by have:=hr.2.2.2;omega
  have hw20:=qqc (n:=n) ht
  rw[if_neg (by grind),if_pos hr,qqe hF hn ht]
  simp only[qBi]
  by_cases hw1:w=((wd n t:Nat):Int)
  ·subst hw1
   rw[if_neg (by simp),qk0 ul il.1 il.2 ll]
   simp only[qBi]
   rcases qk1 ul (n:=lw) with h1 | ⟨L,hL,hLm,rfl,rfl⟩
   ·right
    refine ⟨?_,by rw[if_pos (by grind)];rfl⟩
    rintro ⟨l,k,e,hk,e2,_,g1,g2,g3,rfl,rfl,_⟩
    exact h1 (qk2 (by rw[qgJ];exact g3.1))
   rw[qk2 hLm,if_neg (by simp),qk0 uh ih.1 ih.2 lh]
   simp only[qBi]
   rcases qk1 uh (n:=hw) with h1 | ⟨H,hH,hHm,rfl,rfl⟩
   ·right
    refine ⟨?_,by rw[if_pos (by grind)];rfl⟩
    rintro ⟨l,k,e,hk,e2,_,g1,g2,g3,_,_,rfl,rfl⟩
    exact h1 (qk2 (by rw[qi6 g2];exact g3.2))
   have hmul:n*wd n t≤300*20:=qDe hn hw20
   rw[qk2 hHm,if_neg (by simp),qnP (by omega)]
   by_cases hl1:L.length=n*wd n t
   ·rw[if_neg (by simp_all)]
    have hfin:(n=0∨∃ q,plc 1 H (n-1)=some q) →
      (∃ l,Good l (n:Int) (t:Int) ((wd n t:Nat):Int) (L.length:Int) (pk L) (H.length:Int) (pk H)∧zP F (n:Int) (t:Int) ((wd n t:Nat):Int) (L.length:Int) (pk L) (H.length:Int) (pk H) false=some (lc l,0)) ∨
      ((¬ ∃ l,Good l (n:Int) (t:Int) ((wd n t:Nat):Int) (L.length:Int) (pk L) (H.length:Int) (pk H))∧zP F (n:Int) (t:Int) ((wd n t:Nat):Int) (L.length:Int) (pk L) (H.length:Int) (pk H) false=some ([],1)):=by
     intro hpl
     unfold zP
     rw[if_neg (by simp)]
     have hat:∃ f:Nat→Int,∀ i,i<n→qbN F (n:Int) (t:Int) ((wd n t:Nat):Int) (L.length:Int) (pk L) (H.length:Int) (pk H) (i:Int)=some (f i):=by
      have h1:∀ i,∃ v:Int,i<n→qbN F (n:Int) (t:Int) ((wd n t:Nat):Int) (L.length:Int) (pk L) (H.length:Int) (pk H) (i:Int)=some v:=by
       intro i
       by_cases hi:i<n
       ·unfold qbN
        have hm2:i*wd n t+wd n t≤L.length:=by rw[hl1,← Nat.succ_mul];exact qBN _ hi
        have hc:decide ((0:Int)≤((wd n t:Nat):Int))=true:=decide_eq_true (by omega)
        rw[qls hF hH (by omega) (by omega)]
        simp only[qBi]
        rw[qnP (by omega),qgP (by omega) hL hLm (by omega) (by omega)]
        simp only[qBi]
        rw[hc]
        simp only[chk,if_true,lett]
        simp_all
       ·exact ⟨0,fun h=>absurd h hi⟩
      exact ⟨fun i=>Classical.choose (h1 i),fun i hi=>Classical.choose_spec (h1 i) hi⟩
     obtain ⟨f,hat⟩:=hat
     have hl9:=qvI (F:=F) (t:=t) (n:=n) (w:=wd n t) f hn hat F 0 (by omega) (by omega)
     rw[show (qBx 0).map f=[] from rfl,show ((0:Nat):Int)=0 from rfl] at hl9
     rw[hl9]
     rcases qAX (F:=F) (t:=t) hF ht (lw:=(L.length:Int)) (lb:=pk L) (hw:=(H.length:Int)) (hb:=pk H) (out:=(qBx n).map f) with ⟨ns,e,w,hM⟩ | ⟨hno,hM⟩
     ·have hnl:ns.length=n:=by have:=congrArg List.length e;grind [qhn]
      left
      exact ⟨ns,⟨t,rfl,ht,by omega,by grind,w⟩,by grind⟩
     ·right
      refine ⟨?_,hM⟩
      rintro ⟨l,k,e1,hk,e2,e3,w⟩
      obtain rfl:t=k:=by omega
      have hnl:n=l.length:=by omega
      apply hno
      refine ⟨l,?_,w⟩
      obtain ⟨w1,w2,w3,w4,w5,w6,w7⟩:=w
      apply List.ext_getElem?
      grind [qu2,lc]
    have hnoform:n≠0→plc 1 H (n-1)=none→¬ ∃ l,Good l (n:Int) (t:Int) ((wd n t:Nat):Int) (L.length:Int) (pk L) (H.length:Int) (pk H):=by
     rintro h0 hp ⟨l,k,e1,hk,e2,e3,w1,w2,w3,w4,w5,w6,w7⟩
     obtain rfl:t=k:=by omega
     grind [hiF,qvT,qlc,qsx]
    by_cases h0:n=0
    ·subst h0
     have:isub .i64 ((0:Nat):Int) 1=-1:=by decide
     rw[this,qvU hF hH (by omega)]
     simp_all
    ·rw[qdW (by omega) (by omega),qls hF hH (by omega) (by omega)]
     simp only[qBi]
     cases hp:plc 1 H (n-1) with
     | none =>
      right
      refine ⟨hnoform h0 hp,?_⟩
      simp only
      rw[if_pos (by simp),decide_eq_true (show (0:Int)<(n:Int) by omega)]
      rfl
     | some q =>
      grind
   ·right
    refine ⟨?_,by rw[if_pos (by grind)];rfl⟩
    rintro ⟨l,k,e1,hk,e2,e3,w1,w2,w3,w4,_⟩
    obtain rfl:t=k:=by omega
    grind [qgJ]
  ·right
   refine ⟨?_,by rw[if_pos (by simp_all)];rfl⟩
   rintro ⟨l,k,e1,hk,e2,e3,_⟩
   grind
 ·right
  refine ⟨fun ⟨l,h⟩=>hr (qxM h),?_⟩
  rw[if_pos (by unfold Rg at hr;grind),if_neg hr]
theorem qzU {l:List Nat}{i:Nat}(hi:i<l.length):(lc l)[i]?=some ((l[i]:Nat):Int):=by simp[lc,hi]
def rdn (w:Nat)(L:qD0):qD0→Nat→Nat→Nat→List Nat
 | [],_,_,_=>[]
 | _::_,_,0,_=>[]
 | b::H,h,m+1,k=>if b=0 then rdn w L H (h+1) (m+1) k else (h*2^w+bv ((L.drop (k*w)).take w))::rdn w L H h m (k+1)
theorem qA2 {w:Nat}{L X:qD0}{h:Nat}:rdn w L X h 0 k=[]:=by cases X <;> rfl
theorem qsH {w:Nat}{L X:qD0}{m k:Nat}:∀ {c h:Nat},rdn w L (qBj c 0++X) h (m+1) k=rdn w L X (h+c) (m+1) k
 | 0,h=>by simp
 | c+1,h=>by
  rw[qCq,qCb,rdn,if_pos rfl,qsH,show h+1+c=h+(c+1) from by omega]
theorem qv6 {w last:Nat}{L:qD0}:∀ {l:List Nat} {a k:Nat},(∀ x∈l,a≤x/2^w)→(∀ j x,l[j]?=some x→∀ y∈l.drop (j+1),x/2^w≤y/2^w) →
  (∀ i x,l[i]?=some x→(L.drop ((k+i)*w)).take w=nb x w)→rdn w L (hp w last a l) a l.length k=l
 | [],a,k,_,_,_=>qA2
 | x::l,a,k,h,hs,hL=>by
  have hx:=h x qBv
  have h0:=hs 0 x rfl
  rw[qC7,qB1] at h0
  have h1:=hL 0 x rfl
  rw[Nat.add_zero] at h1
  have ih:=qv6 (w:=w) (last:=last) (L:=L) (l:=l) (a:=x/2^w) (k:=k+1) h0 (fun j y hj=>by
    have:=hs (j+1) y (by grind)
    simp_all) (fun i y hy=>by
    have:=hL (i+1) y (by grind)
    grind)
  grind [qDa,hp,qsH,rdn,qkY]
theorem qu9 {l:qD0}:(∃ (ns:List Nat) (k:Nat),l=lc ns∧t=k∧k≤1048576∧ns.length≤300∧Up k 0 ns∧Fits k ns∧fw l t=fo8 k ns)∨(∃ e:Int,e≠0∧fw l t=fz8 e∧¬ ∃ (ns:List Nat) (k:Nat),l=lc ns∧t=k∧k≤1048576∧ns.length≤300∧Up k 0 ns∧Fits k ns):=by
 by_cases h:fkc l t=0
 ·obtain ⟨ns,k,rfl,hk,rfl,hm,hu⟩:=qjF.1 h
  have hf2:=(qkw hk hm hu).2
  by_cases hf:Fits k ns
  ·grind
  ·right
   refine ⟨8,by decide,by simp_all,?_⟩
   rintro ⟨ns',k',e1,e2,_,_,_,f⟩
   obtain rfl:k=k':=by omega
   have:=congrArg nl e1
   grind [qvF]
 ·right
  refine ⟨fkc l t,h,qu8 h,?_⟩
  grind [qjF]
theorem qvg {l:List Nat}{t:Nat}(hu:Up t 0 l):rdn (wd l.length t) (loF t l) (hiF t l) 0 l.length 0=l:=by
 unfold hiF
 refine qv6 (fun x _=>qBH _) (qoz hu) (fun i x hx=>?_)
 rw[qB9]
 exact qq0 hx
theorem qtA {l l':List Nat}{n:Int}(g:Good l n t w lw lb hw hb)(g':Good l' n t w lw lb hw hb):l=l':=by
 obtain ⟨k,rfl,hk,a1,a2,a3,a4,a5,a6,a7,a8,a9⟩:=g
 obtain ⟨k',e,hk',b1,b2,b3,b4,b5,b6,b7,b8,b9⟩:=g'
 obtain rfl:k=k':=by omega
 grind [loF,qvT,qkx,hiF,qlc,qvg]
def gf (l:List Nat)(i:Int):Int×Int:=match (if 0≤i then l[i.toNat]? else none) with | none=>(0,3) | some x=>((x:Int),0)
structure Bd (lw:Int) (lb:qD0) (hw:Int) (hb:qD0):Prop where
 ul:U8s lb
 uh:U8s hb
 il:I64 lw
 ih:I64 hw
 ll:lb.length≤9223372036854775807
 lh:hb.length≤9223372036854775807
theorem qvH {n:Int}{l:List Nat}(hF:20000≤F)(b:Bd lw lb hw hb)(g:Good l n t w lw lb hw hb):jX F n t w lw lb hw hb=some (lc l,0):=by
 rcases qmn (F:=F) (n:=n) (t:=t) (w:=w) hF b.ul b.uh b.il b.ih b.ll b.lh with ⟨k,g',h⟩ | ⟨h,_⟩
 ·rw[h,qtA g' g]
 ·exact absurd ⟨l,g⟩ h
theorem quF {n:Int}{l:List Nat}(hF:20000≤F)(b:Bd lw lb hw hb)(g:Good l n t w lw lb hw hb):qeE F n t w lw lb hw hb=some 0:=by
 unfold qeE;rw[qvH hF b g];rfl
theorem qvb {n:Int}{l:List Nat}(hF:20000≤F)(b:Bd lw lb hw hb)(g:Good l n t w lw lb hw hb):qe4 F n t w lw lb hw hb i=some (gf l i):=by
 unfold qe4
 rw[quF hF b g]
 simp only[qBi]
 rw[if_pos (by rfl)]
 obtain ⟨k,rfl,hk,rfl,rfl,w1,w2,w3,rfl,rfl,rfl,rfl⟩:=g
 unfold gf qdM
 by_cases hi:0≤i∧i<(l.length:Int)
 ·obtain ⟨i,rfl⟩:=qBm hi.1
  grind [qdL,qu2]
 ·rw[if_pos (by grind)]
  have:(if 0≤i then l[i.toNat]? else none)=none:=by
   simp_all
  rw[this];rfl
theorem qxL {l:List Nat}(hk:k≤1048576)(hm:l.length≤300)(hu:Up k 0 l)(hf:Fits k l):Good l (l.length:Int) (k:Int) ((wd l.length k:Nat):Int) ((loF k l).length:Int) (pk (loF k l)) ((hiF k l).length:Int) (pk (hiF k l)) :=
 ⟨k,rfl,hk,rfl,rfl,hm,hu,hf,rfl,rfl,rfl,rfl⟩
theorem qAL {l:List Nat}(hu:Up k 0 l)(hf:Fits k l):Bd ((loF k l).length:Int) (pk (loF k l)) ((hiF k l).length:Int) (pk (hiF k l)):=by
 have hL:(loF k l).length≤8192:=by rw[qgJ];exact hf.1
 have hH:(hiF k l).length≤8192:=by rw[qi6 hu];exact hf.2
 exact ⟨qh1 (qkx _ _),qh1 (qlc _ _ _ _),⟨by omega,by omega⟩,⟨by omega,by omega⟩,qsw hL,qsw hH⟩
theorem quB (hF:2000000≤F){least k m:Int}(hp:pkE g B least k=0) :
  qaZ F g N B least k m b=some (if (fw (pkA g B least k.toNat g.length).2.2 m).2.2.2.2.2.2.2≠0 then (0,0,0,0,0,[],0,0,0,0,[],0,[],(fw (pkA g B least k.toNat g.length).2.2 m).2.2.2.2.2.2.2) else
   (N,B,least,k,m,b,(fw (pkA g B least k.toNat g.length).2.2 m).1,(fw (pkA g B least k.toNat g.length).2.2 m).2.1,(fw (pkA g B least k.toNat g.length).2.2 m).2.2.1,(fw (pkA g B least k.toNat g.length).2.2 m).2.2.2.1,(fw (pkA g B least k.toNat g.length).2.2 m).2.2.2.2.1,(fw (pkA g B least k.toNat g.length).2.2 m).2.2.2.2.2.1,(fw (pkA g B least k.toNat g.length).2.2 m).2.2.2.2.2.2.1,0)):=by
 grind [qaZ,qvY,ptl,qty]
theorem qlL {g:List (qD0)}{B least:Int}{k:Nat}:∀ n:Nat,(pkA g B least k n).2.2=(qBx n).map fun i=>((pkA g B least k i).1.length:Int)
 | 0=>rfl
 | n+1=>by
  rw[qDb,List.map_append,← qlL (g:=g) (B:=B) (least:=least) (k:=k) n]
  rfl
def dpt (g:List (qD0))(B least:Int)(k:Nat):Nat→Nat→Nat
 | 0,_=>0
 | f+1,i=>1+if (pkN g B least k i).1=0 then 0 else dpt g B least k f (i-(pkN g B least k i).1)
theorem qz8 {least:Int}{i:Nat}:(pkN g B least k i).1≤i:=by
 grind [qjQ]
theorem qAl (hg:Gr g){least:Int}(hh:hcE B least (k:Int)=0)(hl:(pkA g B least k g.length).1.length≤8192){i:Nat}(hi:i<g.length) :
  ∃ p q:Nat,p≤(pkA g B least k g.length).1.length∧pkO (pkA g B least k g.length).1 B i (pkA g B least k i).1.length=some (((pkN g B least k i).1:Int),p) ∧
   rdl (pkA g B least k g.length).1 p (i:Int) (pkF g i (pkN g B least k i).1) ((pkN g B least k i).1:Int) least k=some (g.getD i [],q):=by
 obtain ⟨k1,k2,k',hk,k3,k4⟩:=qeB hh
 have hkk:k=k':=by omega
 subst hkk
 obtain ⟨hr,_⟩:=qjQ (g:=g) (B:=B) (least:=least) (k:=k) (i:=i)
 have hgl:=hg.1
 obtain ⟨R,hR⟩:=qpz (g:=g) (B:=B) (least:=least) (k:=k) hi
 have hA:(pkA g B least k (i+1)).1.length=(pkA g B least k i).1.length+(pkH B (pkN g B least k i).1).length+(enc (i:Int) (g.getD i []) (pkF g i (pkN g B least k i).1) ((pkN g B least k i).1:Int) least k).length:=by
  grind [pkA,pkW]
 have hM:=qfm (g:=g) (B:=B) (least:=least) (k:=k) (show i+1≤g.length from hi)
 refine ⟨(pkA g B least k i).1.length+(pkH B (pkN g B least k i).1).length,(pkA g B least k i).1.length+(pkH B (pkN g B least k i).1).length+(enc (i:Int) (g.getD i []) (pkF g i (pkN g B least k i).1) ((pkN g B least k i).1:Int) least k).length,by omega,?_,?_⟩
 ·grind [pkO,pkH,qhF]
 ·have hE:(enc (i:Int) (g.getD i []) (pkF g i (pkN g B least k i).1) ((pkN g B least k i).1:Int) least k).length≤8192:=by omega
  grind [qsG,Nd,qnL,qky]
theorem qzM {l:List Nat}{i:Nat}(h:i<l.length):gf l (i:Int)=(((l[i]:Nat):Int),0):=by
 grind [gf]
abbrev S14:=Int×Int×Int×Int×Int×qD0×Int×Int×Int×Int×qD0×Int×qD0×Int
def shz (e:Int):S14:=(0,0,0,0,0,[],0,0,0,0,[],0,[],e)
def fwp (g:List (qD0))(B least k:Int):F8:=fw (pkA g B least k.toNat g.length).2.2 ((pkA g B least k.toNat g.length).1.length:Int)
def shE (g:List (qD0))(B least k:Int):Int:=if pkE g B least k≠0 then pkE g B least k else (fwp g B least k).2.2.2.2.2.2.2
def shb (g:List (qD0))(B least k:Int):S14 :=
 if shE g B least k≠0 then shz (shE g B least k) else ((g.length:Int),B,least,k,((pkA g B least k.toNat g.length).1.length:Int),pk (pkA g B least k.toNat g.length).1,(fwp g B least k).1,(fwp g B least k).2.1,(fwp g B least k).2.2.1,(fwp g B least k).2.2.2.1,(fwp g B least k).2.2.2.2.1,(fwp g B least k).2.2.2.2.2.1,(fwp g B least k).2.2.2.2.2.2.1,0)
theorem qAk {least k:Int}:shE g B least k=0↔pkE g B least k=0∧(fwp g B least k).2.2.2.2.2.2.2=0:=by
 grind [shE]
theorem qwq {least k:Int}(h:shE g B least k=0):shb g B least k=((g.length:Int),B,least,k,((pkA g B least k.toNat g.length).1.length:Int),pk (pkA g B least k.toNat g.length).1,(fwp g B least k).1,(fwp g B least k).2.1,(fwp g B least k).2.2.1,(fwp g B least k).2.2.2.1,(fwp g B least k).2.2.2.2.1,(fwp g B least k).2.2.2.2.2.1,(fwp g B least k).2.2.2.2.2.2.1,0):=by
 grind [shb]
theorem qob {least k:Int}(h:shE g B least k≠0):shb g B least k=shz (shE g B least k):=by
 grind [shb]
def blt (N B least k m:Int)(b:qD0)(f:F8):S14:=if f.2.2.2.2.2.2.2≠0 then shz f.2.2.2.2.2.2.2 else (N,B,least,k,m,b,f.1,f.2.1,f.2.2.1,f.2.2.2.1,f.2.2.2.2.1,f.2.2.2.2.2.1,f.2.2.2.2.2.2.1,0)
theorem qmv (hF:2000000≤F){least k m:Int}(hp:pkE g B least k=0) :
  qaZ F g N B least k m b=some (blt N B least k m b (fw (pkA g B least k.toNat g.length).2.2 m)):=quB hF hp
theorem qrd (hF:2000000≤F){least k:Int}:qdT F g B least k=some (shb g B least k):=by
 unfold qdT
 rw[qmS hF]
 simp only[qBi]
 by_cases hp:pkE g B least k=0
 ·grind [pwr,qmv,blt,fwp,qwq,shE,qob]
 ·have e:pwr g B least k=(0,0,0,0,0,[],pkE g B least k):=by
   grind [pwr]
  have hs:shE g B least k=pkE g B least k:=by grind [shE]
  rw[e]
  simp only
  rw[if_pos (by grind),qob (by omega),hs]
  rfl
theorem qtm (F:Nat)(g:List (qD0))(N B least k m:Int)(b:qD0):qey F g N B least k m b=qaZ F g N B least k m b:=rfl
theorem qmG {least k:Int}:(∃ (ns:List Nat) (kk:Nat),(pkA g B least k.toNat g.length).2.2=lc ns∧((pkA g B least k.toNat g.length).1.length:Int)=kk∧kk≤1048576∧ns.length≤300∧Up kk 0 ns∧Fits kk ns∧fwp g B least k=fo8 kk ns)∨(∃ e:Int,e≠0∧fwp g B least k=fz8 e):=by
 rcases qu9 (l:=(pkA g B least k.toNat g.length).2.2) (t:=((pkA g B least k.toNat g.length).1.length:Int)) with ⟨ns,kk,h1,h2,h3,h4,h5,h6,h7⟩ | ⟨e,h1,h2,_⟩
 ·exact Or.inl ⟨ns,kk,h1,h2,h3,h4,h5,h6,h7⟩
 ·exact Or.inr ⟨e,h1,h2⟩
theorem qxJ {least k:Int}:(fwp g B least k).2.2.2.2.1.length≤1100∧(fwp g B least k).2.2.2.2.2.2.1.length≤1100:=by
 rcases qmG (g:=g) (B:=B) (least:=least) (k:=k) with ⟨ns,kk,h1,h2,h3,h4,h5,h6,h7⟩ | ⟨e,h1,h2⟩
 ·rw[h7]
  have e1:=qgJ kk ns
  have e2:=qi6 h5
  unfold Fits at h6
  unfold fo8
  simp only[qjR]
  omega
 ·rw[h2];unfold fz8;simp
theorem qtW {a1 a2 a3 a4 a6 n:Int}{a5 a7:qD0}(h1:a5.length<F)(h2:a7.length<F)(h3:a5.length≤1000000)(h4:a7.length≤1000000) :
  qeI F a1 a2 a3 a4 a5 a6 a7 n t w lw xl hw xh=some (decide ((a1,a2,a3,a4,a5,a6,a7)=(n,t,w,lw,xl,hw,xh))):=by
 unfold qeI qcl qcm
 by_cases h:a1=n∧a2=t∧a3=w∧a4=lw∧a6=hw
 ·obtain ⟨rfl,rfl,rfl,rfl,rfl⟩:=h
  rw[if_pos (by simp),peqb h1 h3]
  simp only[qBi]
  by_cases h5:a5=xl
  ·subst h5
   rw[if_pos (by simp),peqb h2 h4]
   simp
  simp_all
 grind [qDB]
instance f8Dec:DecidableEq F8:=fun a b=>decidable_of_iff (a.1=b.1∧a.2=b.2) ⟨fun h=>Prod.ext h.1 h.2,fun h=>by simp_all⟩
def shc (N B least k m:Int)(b:qD0)(n t w lw:Int)(xl:qD0)(hw:Int)(xh:qD0):Int :=
 if (prd N B least k m b).2≠0 then (prd N B least k m b).2 else if fwp (prd N B least k m b).1 B least k=(n,t,w,lw,xl,hw,xh,0) then 0 else 4
theorem qlF (hF:2000000≤F){least k m n:Int}(hb:U8s b)(hm:I64 m)(lb:b.length≤9223372036854775807) :
  qdU F N B least k m b n t w lw xl hw xh=some (shc N B least k m b n t w lw xl hw xh):=by
 unfold qdU shc
 rw[qvX hF hb hm lb]
 simp only[qBi]
 by_cases h:(prd N B least k m b).2=0
 ·obtain ⟨g,h1,h2,h3,h4,h5⟩:=qAb hb h
  rw[h1]
  simp only
  rw[if_neg (by decide),if_neg (by simp),qtm,qmv hF h2]
  simp only[qBi]
  subst h4
  have ef:fw (pkA g B least k.toNat g.length).2.2 ((pkA g B least k.toNat g.length).1.length:Int)=fwp g B least k:=rfl
  rw[ef]
  by_cases he:(fwp g B least k).2.2.2.2.2.2.2=0
  ·grind [blt,qxJ,qtW,j1]
  ·have e2:∀ m',blt N B least k m' b (fwp g B least k)=shz (fwp g B least k).2.2.2.2.2.2.2:=by
    grind [blt]
   rw[e2,if_pos (by simpa[shz] using he)]
   unfold j1
   grind
 simp_all
theorem qwr {least k n:Int}(h:pkE g B least k=0)(hs:fwp g B least k=(n,t,w,lw,xl,hw,xh,0)) :
  shc (g.length:Int) B least k ((pkA g B least k.toNat g.length).1.length:Int) (pk (pkA g B least k.toNat g.length).1) n t w lw xl hw xh=0:=by
 grind [shc,qAa]
theorem qmE {g:List (qD0)}{B least:Int}{k:Nat}(hp:pkE g B least (k:Int)=0){n t w lw hw:Int}{xl xh:qD0}(hf:fwp g B least (k:Int)=(n,t,w,lw,xl,hw,xh,0)) :
  ∀ (f F i rd:Nat),2000000+f≤F→i<f→i<g.length→rd+f≤1000000 →
  yq F (g.length:Int) B least (k:Int) ((pkA g B least k g.length).1.length:Int) (pk (pkA g B least k g.length).1) n t w lw xl hw xh (rd:Int) (i:Int) =
   some (g.getD i [],(g.length:Int),B,least,(k:Int),((pkA g B least k g.length).1.length:Int),n,t,w,lw,hw,((rd+dpt g B least k f i:Nat):Int))
 | 0,_,_,_,_,h,_,_=>by omega
 | f+1,F,i,rd,hF,hi,hg,hr=>by
  obtain ⟨F,rfl⟩:∃ F',F=F'+1:=⟨F-1,by omega⟩
  obtain ⟨p1,p2,p3⟩:=qhr hp
  rw[qBo] at p3
  have hG:=jP.1 p1
  have hgl:=hG.1
  obtain ⟨k1,k2,k',hk,k3,k4⟩:=qeB p2
  have hkk:k=k':=by omega
  subst hkk
  obtain ⟨p,q,q1,q2,q3⟩:=qAl hG p2 p3 hg
  have hri:=qz8 (g:=g) (B:=B) (least:=least) (k:=k) (i:=i)
  have hbit:=qgN (g:=g) (B:=B) (least:=least) (k:=k) g.length
  have hmono:=qfm (g:=g) (B:=B) (least:=least) (k:=k) (show i≤g.length by omega)
  have hget:qe4 F n t w lw xl hw xh (i:Int)=some (((pkA g B least k i).1.length:Int),0):=by
   rcases qmG (g:=g) (B:=B) (least:=least) (k:=(k:Int)) with ⟨ns,kk,h1,h2,h3,h4,h5,h6,h7⟩ | ⟨e,h1,h2⟩
   ·rw[hf] at h7
    unfold fo8 at h7
    simp only[qDB] at h7
    obtain ⟨rfl,rfl,rfl,rfl,rfl,rfl,rfl,-⟩:=h7
    rw[qBo,qlL] at h1
    have hlen:ns.length=g.length:=by
     have:=congrArg List.length h1
     grind [qhn]
    rw[qvb (by omega) (qAL h5 h6) (qxL h3 h4 h5 h6),qzM (show i<ns.length by omega)]
    have h8:=qzU (l:=ns) (i:=i) (by omega)
    grind
   grind [fz8]
  unfold yq
  simp only
  rw[hget]
  simp only[qBi]
  rw[qsz (by omega) hbit p3 k1 (by omega) (by omega),q2]
  simp only[qBi]
  have hfrom:∀ fr:qD0,fr=pkF g i (pkN g B least k i).1→qah F ((pkA g B least k g.length).1.length:Int) (pk (pkA g B least k g.length).1) (p:Int) (i:Int) fr ((pkN g B least k i).1:Int) least (k:Int)=some (g.getD i [],(q:Int),0):=by
   rintro fr rfl
   grind [qpR,Nd,qky]
  by_cases h0:(pkN g B least k i).1=0
  ·grind [yf,pkF,qu,dpt]
  ·rw[if_pos (by grind),qu (by omega)]
   have e1:isub .i64 (i:Int) ((pkN g B least k i).1:Int)=((i-(pkN g B least k i).1:Nat):Int):=by
    grind [zN]
   rw[e1,qmE hp hf f F (i-(pkN g B least k i).1) (rd+1) (by omega) (by omega) (by omega) (by omega)]
   grind [yf,pkF,dpt]
structure Shf (g:List (qD0)) (B least k n t w lw:Int) (xl:qD0) (hw:Int) (xh:qD0):Prop where
 pe:pkE g B least k=0
 fe:fwp g B least k=(n,t,w,lw,xl,hw,xh,0)
theorem qyh {least k:Int}(h:shE g B least k=0):Shf g B least k (fwp g B least k).1 (fwp g B least k).2.1 (fwp g B least k).2.2.1 (fwp g B least k).2.2.2.1 (fwp g B least k).2.2.2.2.1 (fwp g B least k).2.2.2.2.2.1 (fwp g B least k).2.2.2.2.2.2.1:=by
 obtain ⟨h1,h2⟩:=qAk.1 h
 refine ⟨h1,?_⟩
 grind
theorem qzh {least k n:Int}(s:Shf g B least k n t w lw xl hw xh) :
  U8s (pk (pkA g B least k.toNat g.length).1)∧I64 ((pkA g B least k.toNat g.length).1.length:Int)∧(pk (pkA g B least k.toNat g.length).1).length≤9223372036854775807:=by
 obtain ⟨p1,p2,p3⟩:=qhr s.pe
 refine ⟨qh1 (qgN _),⟨by omega,by omega⟩,?_⟩
 rw[qjR];omega
def rdn' (g:List (qD0))(B least k:Int)(i:Nat):Nat:=dpt g B least k.toNat 101 i
theorem qxW (hF:2000200≤F){least k n:Int}(s:Shf g B least k n t w lw xl hw xh){i:Nat}(hi:i<g.length) :
  qbS F (g.length:Int) B least k ((pkA g B least k.toNat g.length).1.length:Int) (pk (pkA g B least k.toNat g.length).1) n t w lw xl hw xh (i:Int)=some (g.getD i [],(rdn' g B least k i:Int),0):=by
 obtain ⟨p1,p2,p3⟩:=qhr s.pe
 have hgl:=(jP.1 p1).1
 obtain ⟨k1,k2,k',rfl,k3,k4⟩:=qeB p2
 obtain ⟨b1,b2,b3⟩:=qzh s
 unfold qbS
 rw[qlF (by omega) b1 b2 b3,qwr s.pe s.fe]
 simp only[qBi]
 rw[if_pos (by rfl)]
 unfold qaQ
 rw[if_neg (by simp_all)]
 unfold qaP
 rw[if_neg (by decide)]
 have:=qmE s.pe s.fe 101 F i 0 (by omega) (by omega) hi (by omega)
 rw[qBo] at *
 rw[show ((0:Nat):Int)=0 from rfl] at this
 rw[this]
 simp only[qBi]
 unfold rdn'
 simp
theorem qvw (hF:2000200≤F){least k n:Int}(s:Shf g B least k n t w lw xl hw xh)(hi:i<0∨(g.length:Int)≤i) :
  qbS F (g.length:Int) B least k ((pkA g B least k.toNat g.length).1.length:Int) (pk (pkA g B least k.toNat g.length).1) n t w lw xl hw xh i=some ([],0,3):=by
 obtain ⟨b1,b2,b3⟩:=qzh s
 unfold qbS
 rw[qlF (by omega) b1 b2 b3,qwr s.pe s.fe]
 grind [qaQ,qaP]
abbrev DR:=List (qD0)×Int×Int×Int×qD0×Int
def Fin (g:List (qD0))(B l K:Int)(r:DR):Prop :=
 (∃ e:Int,0<e∧e≤100∧r=([],0,0,0,[],e))∨∃ g' B' l' K' t,r=(g',B',l',K',t,0)∧Gr g'∧hcE B' l' K'=0∧t.length≤2000000∧(t=[111,107]∨g'=g∧B'=B∧l'=l∧K'=K)
theorem qgq {x:α}{xs:List α}:sub (x::xs) 1 ((x::xs).length:Int)=some xs:=by
 unfold sub
 rw[if_pos ⟨by decide,by grind,Int.le_refl _⟩,qBo,qCB]
 rfl
def ls3 (L:qD0):List (qD0):=L.map dcI
theorem qvv {F:Nat}{L:qD0}(hL:∀ x∈L,0≤x∧x<1000)(hm:L.length≤1000):∀ (k i:Nat),L.length<k+i→i≤L.length→qbC F L k (ls3 (L.take i),(i:Int))=joinM (ls3 L) [32]
 | 0,_,_,_=>by omega
 | k+1,i,h,hi=>by
  show qbA F L (qbC F L k) (ls3 (L.take i)) (i:Int)=_
  unfold qbA
  by_cases hlt:i<L.length
  ·rw[if_pos (decide_eq_true (by omega)),qo,qBk hlt]
   simp only[qBi]
   rw[qiX (hL _ (qBE hlt))]
   simp only[qBi]
   rw[kG (by simp[ls3];omega)]
   simp only[qBi]
   rw[qu (by omega),← qvv hL hm k (i+1) (by omega) (by omega)]
   congr 2
   grind [ls3,qbV]
  grind [qbB]
theorem quA (x:qD0):(bstr x).data.toList.length=x.length:=by
 have:=vx x
 simp_all
theorem qvu {L:qD0}(hL:∀ x∈L,0≤x∧x<1000):Lib.lens ((ls3 L).map fun x=>(bstr x).data.toList)≤3*L.length:=by
 induction L with
 | nil=>exact qBw _
 | cons x L ih =>
  have h1:=(qip (hL x (qBv ..))).2
  have h2:=ih fun y hy=>hL y (qBz _ hy)
  grind [Lib.lens,ls3,quA]
theorem qup {n L:qD0}(hF:2000≤F)(hL:∀ x∈L,0≤x∧x<1000)(hm:L.length≤1000):∃ t,jp F g B l K n s L=some t∧joinM (ls3 L) [32]=some t∧t.length≤5000:=by
 have h:=qvv (F:=F) hL hm F 0 (by omega) (by omega)
 have hj:(Lib.join ((ls3 L).map fun x=>(bstr x).data.toList) (bstr [32]).data.toList).length≤5000:=by
  have h1:=qvu hL
  generalize hq:(ls3 L).map (fun x=>(bstr x).data.toList)=q at h1
  have hql:q.length=L.length:=by grind [ls3]
  cases q with
  | nil=>rw[Lib.join_nil];omega
  | cons x r =>
   grind [Lib.join_length,quA]
 have hs:joinM (ls3 L) [32]=some (lB ⟨(Lib.join ((ls3 L).map fun x=>(bstr x).data.toList) (bstr [32]).data.toList).toArray⟩):=by
  grind [joinM,ls3]
 refine ⟨_,h.trans hs,hs,?_⟩
 simpa[lB] using hj
theorem qA5 (hg:Gr g){x y:Nat}(hx:x<g.length)(h:Sc g x y):y<g.length:=by
 obtain ⟨k,hk⟩:=h.1
 exact qBc hg hx hk
def Acy (g:List (qD0)):Prop:=∀ i,i<g.length→P g i=i∧¬ Ld g i i
theorem Acy.sc (hg:Gr g)(h:Acy g){x y:Nat}(hx:x<g.length)(hs:Sc g x y):x=y:=by
 have hy:=qA5 hg hx hs
 have:=(qAK hg hx hy).2 hs
 rw[(h x hx).1,(h y hy).1] at this
 omega
theorem qz5 (g:List (qD0)):OI g []:=⟨List.nodup_nil,by simp,by simp⟩
theorem qmO {g:List (qD0)}(hg:Gr g):∀ (m:Nat) (out o:List Nat),OI g out→ordM g m out=some o→OI g o∧o.take out.length=out∧o.length=out.length+m∧∀ j,out.length≤j→j<o.length→nxO g (o.take j)=o[j]?
 | 0,out,o,ho,h=>by
  grind [ordM]
 | m+1,out,o,ho,h=>by
  cases hn:nxO g out with
  | none=>simp[ordM,hn] at h
  | some i =>
   obtain ⟨hi,hf,_⟩:=qpw hn
   simp only[ordM,hn] at h
   obtain ⟨h1,h2,h3,h4⟩:=qmO hg m _ _ (ho.snoc hg hi hf) h
   rw[qBr,qCY] at h2 h3 h4
   have ht:o.take out.length=out:=by
    have:(o.take (out.length+1)).take out.length=(out++[i]).take out.length:=by rw[h2]
    grind
   refine ⟨h1,ht,by omega,fun j hj hjl=>?_⟩
   by_cases e:j=out.length
   ·subst e
    rw[ht,hn]
    have:(o.take (out.length+1))[out.length]?=(out++[i])[out.length]?:=by rw[h2]
    grind
   grind
structure Tp (g:List (qD0)) (o:qD0):Prop where
 len:o.length=g.length
 nd:o.Nodup
 rg:∀ x∈o,0≤x∧x<g.length
 up:∀ i j a b:Nat,Ld g i j→o[a]?=some (i:Int)→o[b]?=some (j:Int)→a<b
theorem qq3 {L:List Nat}{n:Nat}(h:L.Nodup)(hl:L.length=n)(hlt:∀ x∈L,x<n):∀ x,x<n→x∈L:=fun x hx=>Classical.byContradiction fun hc=>by
 have:=qfk (L:=x::L) (M:=qBx n) (List.nodup_cons.2 ⟨hc,h⟩) fun y hy=>by
  grind
 grind
theorem Tp.nat {o:qD0}(h:Tp g o):∃ q:List Nat,o=iz q∧q.Nodup∧q.length=g.length∧∀ x∈q,x<g.length:=by
 refine ⟨o.map Int.toNat,?_,?_,by simp[h.len],fun x hx=>?_⟩
 ·unfold iz
  rw[List.map_map]
  conv=>lhs;rw[← List.map_id o]
  refine List.map_congr_left fun x hx=>?_
  have:=h.rg x hx
  grind
 ·refine List.pairwise_map.2 (List.Pairwise.imp_of_mem (fun hx hy hne e=>?_) h.nd)
  have:=h.rg _ hx;have:=h.rg _ hy
  omega
 ·obtain ⟨y,hy,rfl⟩:=qBK.1 hx
  have:=h.rg y hy
  omega
theorem qz3 {L:List α}(h:L.Nodup){i j:Nat}{x:α}(hi:L[i]?=some x)(hj:L[j]?=some x):i=j:=by
 grind [List.pairwise_iff_getElem]
theorem qxS {q:List Nat}{a i:Nat}:(iz q)[a]?=some (i:Int)↔q[a]?=some i:=by
 unfold iz
 grind
theorem Tp.pos {o:qD0}(h:Tp g o){i:Nat}(hi:i<g.length):∃ a,o[a]?=some (i:Int)∧a<g.length:=by
 obtain ⟨q,rfl,h1,h2,h3⟩:=h.nat
 obtain ⟨a,ha,e⟩:=List.getElem_of_mem (qq3 h1 h2 h3 i hi)
 exact ⟨a,qxS.2 (by grind),by omega⟩
theorem Tp.wk (hg:Gr g){o:qD0}(h:Tp g o):∀ {k i j a b:Nat},Wk g k i j→o[a]?=some (i:Int)→o[b]?=some (j:Int)→a+k≤b
 | 0,i,j,a,b,hw,ha,hb=>by
  obtain rfl:i=j:=hw
  have:=qz3 h.nd ha hb
  omega
 | k+1,i,j,a,b,hw,ha,hb=>by
  obtain ⟨u,h1,h2⟩:=hw
  obtain ⟨c,hc,_⟩:=h.pos (qvq hg h1).2
  have:=h.up i u a c h1 ha hc
  have:=Tp.wk hg h h2 hc hb
  omega
theorem known1 {n:qD0}(hF:10≤F):kV F g B l K n s [a]=some (decide (a<g.length)):=by
 unfold kV zr zD
 obtain ⟨k,rfl⟩:∃ k,F=k+2:=⟨F-2,by omega⟩
 have e0:zv (k+2) [a] g B l K n s (k+2) 0=if (g.length:Int)≤a then some 0 else some (-1):=by
  show zu (k+2) [a] g B l K n s (zv (k+2) [a] g B l K n s (k+1)) 0=_
  unfold zu qbz
  rw[if_pos (by simp),show idx [a] (0:Int)=some a from rfl]
  simp only[qBi,decide_eq_true_eq]
  rfl
 grind
theorem qqO {n:Nat}(h:n≤100):Gr (qBj n []):=by
 refine ⟨by grind,fun r hr=>?_,?_⟩
 ·simp_all
 ·have:∀ m,gtot (qBj m [])=0:=fun m=>by
   induction m with
   | zero=>rfl
   | succ m ih=>grind [gtot]
  simp_all
theorem qo7 (h0:0≤a):qao F g B l K [a] s=some (if 100<a then (3,g) else (0,qBj a.toNat [])):=by
 unfold qao
 rw[show idx [a] (0:Int)=some a from rfl]
 grind [mk]
theorem qk4:∀ (m u:Nat),u<m→(Lib.decDigits u).length≤u+1
 | 0,_,h=>by omega
 | m+1,u,h=>by
  by_cases h1:u<10
  ·rw[dg1 h1];simp
  ·have:=qk4 m (u/10) (by omega)
   grind [dg2]
theorem qvm {v:Int}(h:-1≤v∧v≤1000000):∃ x,itoaC v=some x∧x.length≤2000000:=by
 refine ⟨_,if_pos (by omega),?_⟩
 unfold Lib.itoa
 split
 ·have:=qk4 _ v.natAbs (qDG _)
  simp[lB];omega
 ·have:=qk4 _ v.toNat (qDG _)
  simp[lB];omega
theorem qA1 (hg:Gr g)(hh:hcE B l K=0):pkE g B l K=0∨pkE g B l K=8:=by
 unfold pkE
 rw[if_neg (by grind [jP]),if_neg (by omega)]
 omega
theorem quX {t:Nat}{f:Nat→Nat}(hf:∀ i j,i≤j→f i≤f j):∀ (m i last:Nat),last≤f i→(∀ j,j<i+m→f j≤t)→Up t last ((List.range' i m).map f)
 | 0,_,_,_,_=>trivial
 | m+1,i,last,h,ht=>by
  rw[List.range'_succ,List.map_cons]
  exact ⟨h,ht i (by omega),quX hf m (i+1) (f i) (hf _ _ (by omega)) fun j hj=>ht j (by omega)⟩
theorem qq7 {g:List (qD0)}{B l:Int}{k:Nat}:∀ n,(pkA g B l k n).2.2=lc ((qBx n).map fun i=>(pkA g B l k i).1.length)
 | 0=>rfl
 | n+1=>by
  rw[pkA,qq7 n]
  simp[lc,qDb]
theorem qA6 (hg:Gr g)(hh:hcE B l K=0):shE g B l K=0∨shE g B l K=8:=by
 unfold shE
 rcases qA1 hg hh with h | h
 ·obtain ⟨_,_,h3⟩:=qhr h
  have h1:=hg.1
  rw[if_neg (by omega)]
  unfold fwp
  rw[qq7,List.range_eq_range',(qkw (t:=(pkA g B l K.toNat g.length).1.length) (by omega) (by grind) (quX (fun i j h=>qfm h) g.length 0 0 (qBH _) fun j hj=>qfm (by omega))).2]
  split
  ·exact .inl rfl
  ·exact .inr rfl
 omega
def dkj (L:qD0):qD0:=(joinM (ls3 L) [32]).getD []
theorem qov {n L:qD0}(hF:2000≤F)(hL:∀ x∈L,0≤x∧x<1000)(hm:L.length≤1000):jp F g B l K n s L=some (dkj L)∧(dkj L).length≤5000:=by
 obtain ⟨t,h1,h2,h3⟩:=qup (F:=F) (g:=g) (B:=B) (l:=l) (K:=K) (n:=n) (s:=s) hF hL hm
 grind [dkj]
theorem qAg {r:qD0}(hg:Gr g)(hr:r∈g):(∀ x∈r,0≤x∧x<1000)∧r.length≤1000:=by
 have h1:=hg.1
 have h2:=qgI hg hr
 refine ⟨fun x hx=>?_,by omega⟩
 have:=(hg.2.1 r hr).2 x hx
 omega
def findT (g:List (qD0))(a:Int):Int×qD0:=if a<g.length then (0,dkj (g.getD a.toNat [])) else (3,dkj [])
theorem qqz (hF:2000200≤F)(hg:Gr g)(hh:hcE B l K=0)(h0:0≤a):qbc F g B l K [a] s=some (if shE g B l K=0 then findT g a else (8,s)):=by
 unfold qbc qby
 rw[qrd (by omega)]
 simp only[qBi]
 rcases qA6 hg hh with h | h
 ·rw[qwq h,if_pos h]
  simp only
  rw[if_neg (by decide),show idx [a] (0:Int)=some a from rfl]
  simp only[qBi]
  have sf:=qyh h
  unfold findT
  by_cases ha:a<g.length
  ·obtain ⟨i,rfl⟩:=qBm h0
   grind [qxW,qAg,qov]
  ·rw[if_neg ha,qvw hF sf (.inr (by omega))]
   simp only[qBi]
   rw[(qov (by omega) (by simp) (by simp)).1]
   rfl
 grind [qob,shz]
def mayT (r:qD0×Int)(z:Int):Int×qD0:=if r.2=z then (0,[110,111,110,101]) else (r.2,dkj r.1)
theorem qo6 {z:Int}{n:qD0}{r:qD0×Int}(hF:2000≤F)(hL:∀ x∈r.1,0≤x∧x<1000)(hm:r.1.length≤1000):vB F g B l K n s r.1 r.2 z=some (mayT r z):=by
 grind [vB,vO,mayT,qov]
theorem qAV {q:List Nat}{m:Nat}(h:∀ i∈q,i<m)(hm:m≤100):∀ x∈iz q,0≤x∧x<1000:=fun x hx=>by
 obtain ⟨i,hi,rfl⟩:=qBK.1 hx
 grind
theorem qzJ (hg:Gr g):((ordR (ordL g)).2=0∨0<(ordR (ordL g)).2∧(ordR (ordL g)).2≤100)∧(∀ x∈(ordR (ordL g)).1,0≤x∧x<1000)∧(ordR (ordL g)).1.length≤1000:=by
 cases h:ordL g with
 | none=>grind [ordR]
 | some o =>
  have ho:=(qmO hg _ _ _ (qz5 g) h).1
  have h1:=hg.1
  have h2:=ho.len
  refine ⟨.inl rfl,qAV ho.lt h1,by show (iz o).length≤_;rw[qeC];omega⟩
theorem qo8 {n:qD0}(hF:4000≤F)(hg:Gr g):qap F g B l K n s=some (mayT (ordR (ordL g)) 4):=by
 grind [qap,quq,jP,qzJ,qo6]
def oneT (s L:qD0)(a:Int):Int×qD0:=if a<L.length then (0,dcI (gD L a.toNat)) else (3,s)
theorem qqA (hF:4000≤F)(hg:Gr g)(h0:0≤a):kw F g B l K [a] s=some (oneT s (spartL g) a):=by
 have hp:=qeR hg
 have h1:=hg.1
 unfold kw oneT
 rw[show idx [a] (0:Int)=some a from rfl]
 simp only[qBi]
 rw[known1 (by omega),hp.len]
 simp only[qBi]
 by_cases ha:a<g.length
 ·rw[decide_eq_true ha,if_neg (by simp),if_pos ha,qtU hF]
  simp only[qBi]
  unfold spartM
  rw[if_neg (by grind [jP])]
  obtain ⟨i,rfl⟩:=qBm h0
  have hi:i<g.length:=by omega
  have:=hp.le i hi
  rw[qo,qqK (by rw[hp.len];omega)]
  grind [qiX]
 simp_all
theorem qqy (hF:4000≤F)(hg:Gr g)(h0:0≤a):∃ c,IsCore g c∧kv F g B l K [a] s=if a<g.length then (itoaC (c a.toNat:Int)).bind fun x=>some (0,x) else some (3,s):=by
 have h1:=hg.1
 obtain ⟨c,hc,hn⟩:=qq6 (F:=F) (by omega) hg
 refine ⟨c,hc,?_⟩
 unfold kv
 rw[show idx [a] (0:Int)=some a from rfl]
 simp only[qBi]
 rw[known1 (by omega)]
 simp only[qBi]
 by_cases ha:a<g.length
 ·rw[decide_eq_true ha,if_neg (by simp),if_pos ha,hn]
  simp only[qBi]
  obtain ⟨i,rfl⟩:=qBm h0
  grind [qo,qvE]
 grind
theorem qnE {n:qD0}(hF:200000≤F)(hg:Gr g):∃ t,itoaC ((th g).length:Int)=some t∧t.length≤2000000∧jO F g B l K n s=some (0,t):=by
 have:=qw3 hg
 obtain ⟨x,hx,hl⟩:=qvm (v:=((th g).length:Int)) (by omega)
 grind [jO,qun]
theorem e3:0<(3:Int)∧(3:Int)≤100:=by decide
theorem e1:0<(1:Int)∧(1:Int)≤100:=by decide
def wsN (k:qD0)(ns:qD0):qD0:=k++ns.flatMap fun n=>32::dcI n
theorem quS:∀ (ns k:qD0),(32:Int)∉k→(∀ n∈ns,0≤n∧n<1000)→cutI 32 (wsN k ns)=k::ns.map dcI
 | [],k,h,_=>by grind [wsN,quR]
 | n::ns,k,h,hn=>by
  have e:wsN k (n::ns)=k++32::wsN (dcI n) ns:=by rfl
  rw[e,qtr h,quS ns _ (qAN (hn n (qBv ..))) fun x hx=>hn x (qBz _ hx)]
  rfl
theorem qgx {k ns:qD0}(hk:By k)(hkl:k.length≤10)(hb:(32:Int)∉k)(hl:ns.length≤3)(hn:∀ n∈ns,0≤n∧n<1000):splitM (wsN k ns) [32]=some (k::ns.map dcI):=by
 rw[qtZ (by omega) ?_ ?_,quS ns k hb hn]
 ·intro x hx
  rcases qBn.1 hx with h | h
  ·exact hk x h
  ·obtain ⟨n,h1,h2⟩:=List.mem_flatMap.1 h
   rcases qBp.1 h2 with rfl | h2
   ·omega
   ·exact qAO (hn n h1) x h2
 ·have:∀ ns:qD0,(∀ n∈ns,0≤n∧n<1000)→(ns.flatMap fun n=>32::dcI n).length≤4*ns.length:=fun ns=>by
   induction ns with
   | nil=>simp
   | cons n ns ih =>
    intro h
    have h1:=ih fun x hx=>h x (qBz _ hx)
    grind [qip]
  grind [wsN]
theorem qp9 {F:Nat}{N:Int}{ns:qD0}(hl:ns.length≤3)(hn:∀ n∈ns,0≤n∧n<1000):∀ (j i k:Nat),i+j=ns.length→zG F N (ns.map dcI) (k+1+j) ((i:Int),ns.take i)=some (((ns.length:Int) == N),ns)
 | 0,i,k,h=>by
  grind [qw2,qBJ]
 | j+1,i,k,h=>by
  have hi:i<ns.length:=by omega
  have e:ns[i]?=some ns[i]:=qBk hi
  have:=qum (F:=F) (k:=k+1+j) (N:=N) (ws:=ns.map dcI) (ns:=ns.take i) (i:=i) (hn _ (qBE hi)) (by simp_all) (by omega) (by grind)
  have e2:ns.take i++[ns[i]]=ns.take (i+1):=by simp
  rw[e2] at this
  exact this.trans (qp9 hl hn j (i+1) k (by omega))
theorem qhP {ns:qD0}(hF:10≤F)(hl:ns.length≤3)(hN:(ns.length:Int)=N)(hn:∀ n∈ns,0≤n∧n<1000):qM F g B l K [] s N (ns.map dcI)=some (true,ns):=by
 unfold qM
 obtain ⟨k,rfl⟩:∃ k,F=k+1+ns.length:=⟨F-1-ns.length,by omega⟩
 have:=qp9 (F:=k+1+ns.length) (N:=N) hl hn ns.length 0 k (by omega)
 simp_all
def zE (z:Int×qD0)(g:List (qD0))(B l K:Int):DR:=dkE z.1 g B l K z.2
theorem qxB (hF:2000200≤F)(hg:Gr g)(hh:hcE B l K=0)(ha:0≤a∧a<1000) :
  zH F g B l K (wsN [108,105,115,116] [a])=some (zE (if shE g B l K=0 then findT g a else (8,[111,107])) g B l K):=by
 have hn:∀ n∈[a],0≤n∧n<1000:=by grind
 unfold zH
 rw[qgh (by omega) hg,qBi,qgx (by unfold By;decide) (by decide) (by decide) (by simp) hn,qBi]
 rw[show idx (([108,105,115,116]:qD0)::[a].map dcI) (0:Int)=some [108,105,115,116] from rfl,qBi,qeQ,qBi]
 rw[if_neg (by decide),if_neg (by decide),if_neg (by decide),if_neg (by decide),if_neg (by decide),if_pos (by decide)]
 unfold qca
 rw[qgq,qBi,qhP (N:=1) (by omega) (by simp) rfl hn]
 simp only[qBi,if_true]
 rw[qqz hF hg hh ha.1,qBi,qjK]
 rfl
theorem qxC (hF:2000200≤F)(hg:Gr g)(ha:0≤a∧a<1000) :
  zH F g B l K (wsN [112,97,114,116] [a])=some (zE (oneT [111,107] (spartL g) a) g B l K):=by
 have hn:∀ n∈[a],0≤n∧n<1000:=by grind
 unfold zH
 rw[qgh (by omega) hg,qBi,qgx (by unfold By;decide) (by decide) (by decide) (by simp) hn,qBi]
 rw[show idx (([112,97,114,116]:qD0)::[a].map dcI) (0:Int)=some [112,97,114,116] from rfl,qBi,qeQ,qBi]
 rw[if_neg (by decide),if_neg (by decide),if_neg (by decide),if_neg (by decide),if_neg (by decide),if_neg (by decide),if_neg (by decide),if_neg (by decide),if_pos (by decide)]
 unfold qcb
 rw[qgq,qBi,qhP (N:=1) (by omega) (by simp) rfl hn]
 simp only[qBi,if_true]
 rw[qqA (by omega) hg ha.1,qBi,qjK]
 rfl
theorem qu0 (hF:2000200≤F)(hg:Gr g):zH F g B l K [111,114,100,101,114]=some (zE (mayT (ordR (ordL g)) 4) g B l K):=by
 have hs:=qgx (k:=[111,114,100,101,114]) (ns:=[]) (by unfold By;decide) (by decide) (by decide) (by simp) (by simp)
 unfold zH
 rw[qgh (by omega) hg,qBi,show ([111,114,100,101,114]:qD0)=wsN [111,114,100,101,114] [] from rfl,hs,qBi]
 rw[show idx (([111,114,100,101,114]:qD0)::[].map dcI) (0:Int)=some [111,114,100,101,114] from rfl,qBi,qeQ,qBi]
 rw[if_neg (by decide),if_neg (by decide),if_neg (by decide),if_neg (by decide),if_neg (by decide),if_neg (by decide),if_neg (by decide),if_neg (by decide),if_neg (by decide),if_pos (by decide)]
 unfold qcc
 rw[qgq,qBi,qhP (N:=0) (ns:=[]) (by omega) (by simp) rfl (by simp)]
 simp only[qBi,if_true]
 rw[qo8 (by omega) hg,qBi,qjK]
 rfl
theorem qtt (hF:2000200≤F)(hg:Gr g):∃ t,itoaC ((th g).length:Int)=some t∧zH F g B l K [116,104,114,101,101,115]=some (zE (0,t) g B l K):=by
 obtain ⟨t,h1,h2,h3⟩:=qnE (F:=F) (B:=B) (l:=l) (K:=K) (n:=[]) (s:=[111,107]) (by omega) hg
 refine ⟨t,h1,?_⟩
 have hs:=qgx (k:=[116,104,114,101,101,115]) (ns:=[]) (by unfold By;decide) (by decide) (by decide) (by simp) (by simp)
 unfold zH
 rw[qgh (by omega) hg,qBi,show ([116,104,114,101,101,115]:qD0)=wsN [116,104,114,101,101,115] [] from rfl,hs,qBi]
 rw[show idx (([116,104,114,101,101,115]:qD0)::[].map dcI) (0:Int)=some [116,104,114,101,101,115] from rfl,qBi,qeQ,qBi]
 rw[if_neg (by decide),if_neg (by decide),if_neg (by decide),if_neg (by decide),if_neg (by decide),if_neg (by decide),if_neg (by decide),if_neg (by decide),if_neg (by decide),if_neg (by decide),if_neg (by decide),if_pos (by decide)]
 unfold qce
 rw[qgq,qBi,qhP (N:=0) (ns:=[]) (by omega) (by simp) rfl (by simp)]
 simp only[qBi,if_true]
 rw[h3,qBi,qjK]
 rfl
theorem qAS:ga 0=[1]:=by decide
theorem qzO (n:Nat):1≤(ga n).length:=by rw[qk9];omega
theorem qpK {n i:Nat}:(qBj n ([]:qD0)).getD i []=[]:=by
 rw[List.getD_eq_getElem?_getD,List.getElem?_replicate]
 split <;> rfl
theorem qxE {least:Int}{fr:qD0}:enc node [] fr back least k=[1]:=by
 unfold enc
 rw[if_pos rfl,qBV,qCw,qAS]
theorem qA3 {n i:Nat}{least:Int}:(pkN (qBj n []) B least k i).2.length=if 0<B then 2 else 1:=by
 have h1:=(qjQ (g:=qBj n []) (B:=B) (least:=least) (k:=k) (i:=i)).2
 have h2:(pkN (qBj n []) B least k i).2.length≤(pkW (qBj n []) B least k i 0).length:=qnD _ (qBH _)
 have hW:∀ r,(pkW (qBj n []) B least k i r).length=(pkH B r).length+1:=by
  intro r
  unfold pkW
  rw[qpK,qxE,qBr]
  rfl
 rw[hW] at h2
 have h3:(pkN (qBj n []) B least k i).2.length=(pkH B (pkN (qBj n []) B least k i).1).length+1:=by
  conv=>lhs;rw[h1]
  exact hW _
 unfold pkH at h2 h3
 by_cases hB:0<B
 ·rw[if_pos hB] at h2 h3 ⊢
  rw[qAS] at h2
  have:=qzO (pkN (qBj n []) B least k i).1
  simp at h2
  omega
 ·rw[if_neg hB] at h2 h3 ⊢
  simp at h3
  omega
theorem qze {n k:Nat}{B least:Int}:∀ i:Nat,(pkA (qBj n []) B least k i).1.length=i*(if 0<B then 2 else 1)
 | 0=>by simp[pkA]
 | i+1=>by
  unfold pkA
  rw[qBr,qze i,qA3]
  split <;> omega
abbrev nE (n:Nat):List (qD0):=qBj n []
theorem qrN {n:Nat}:af 0 (nE n)=[]:=by
 refine List.eq_nil_iff_forall_not_mem.2 fun p hp=>?_
 obtain ⟨i,r,h1,_,h2⟩:=qit.1 hp
 have:=qBl h1
 rw[List.eq_of_mem_replicate this] at h2
 simp at h2
theorem qAY {n u v:Nat}:¬ Ld (nE n) u v:=by unfold Ld;rw[qrN];simp
theorem qAc {n x y:Nat}(h:Rch (nE n) x y):x=y:=by
 obtain ⟨k,h⟩:=h
 cases k with
 | zero=>exact h
 | succ k=>obtain ⟨u,h1,_⟩:=h;exact absurd h1 qAY
theorem qx3 {n a:Nat}(hn:n≤100)(ha:a<n):gD (spartL (nE n)) a=(a:Int):=by
 have hl:a<(nE n).length:=by simpa using ha
 have h:StrOk (nE n) (spartL (nE n)):=qeR (qqO hn)
 have h1:=qAc (h.sc a hl).1
 have h2:=(h.le a hl).1
 omega
theorem qA0 {n i:Nat}:Nb (nE n) i k=false:=by
 unfold Nb E
 rw[qrN]
 simp[exA]
theorem qxu {n a:Nat}{c:Nat→Nat}(h:IsCore (nE n) c)(ha:a<n):c a=0:=by
 have:=h.own a (by simpa using ha)
 have e:dg (nE n) (fun u=>decide (c a≤c u)) a=0:=by
  unfold dg
  rw[List.countP_eq_zero]
  intro u _
  rw[qA0];simp
 omega
theorem qxI {n i:Nat}:free (nE n) (qBx i)=fun j=>decide (i≤j):=by
 funext j
 unfold free
 have:∀ k,ldB (nE n) k j=false:=fun k=>by unfold ldB;rw[qrN];simp
 simp[this]
theorem qsq {n:Nat}:∀ m i,i+m=n→ordM (nE n) m (qBx i)=some (qBx n)
 | 0,i,h=>by rw[show i=n by omega];rfl
 | m+1,i,h=>by
  unfold ordM
  have e:nxO (nE n) (qBx i)=some i:=by
   unfold nxO
   rw[qxI,List.find?_range_eq_some]
   exact ⟨by simp,by simp;omega,fun j hj=>by simp;omega⟩
  rw[e]
  dsimp only
  rw[← qDb]
  exact qsq m (i+1) (by omega)
theorem qz6 {n:Nat}:ordL (nE n)=some (qBx n):=by
 unfold ordL
 rw[qBP]
 exact qsq n 0 (by omega)
theorem qw0 {X:List (qD0)}:∀ (R:List (qD0)) (i:Nat),(∀ l∈R,l=[])→t1 X i R=[]
 | [],_,_=>rfl
 | l::R,i,h=>by
  unfold t1
  rw[h l (qBv ..),qw0 R (i+1) fun x hx=>h x (qBz _ hx)]
  rfl
theorem qBa {n:Nat}:th (nE n)=[]:=by
 unfold th
 refine qw0 _ _ fun l hl=>?_
 unfold nr at hl
 obtain ⟨i,_,rfl⟩:=qBK.1 hl
 unfold E
 rw[qrN]
 simp[exA,cols]
theorem qAm {n:Nat}(hn:n≤100)(hh:hcE B l K=0):shE (nE n) B l K=0:=by
 have hg:=qqO hn
 have hl:=qze (n:=n) (B:=B) (least:=l) (k:=K.toNat) n
 have hp:pkE (nE n) B l K=0:=by
  unfold pkE
  rw[if_neg (by rw[jP.2 hg];decide),if_neg (by rw[hh];decide),qBP,hl,if_neg]
  split <;> omega
 obtain ⟨_,_,h3⟩:=qhr hp
 unfold shE
 rw[if_neg (by rw[hp];decide)]
 unfold fwp
 rw[qq7,List.range_eq_range',(qkw (t:=(pkA (nE n) B l K.toNat (nE n).length).1.length) (by omega) (by simp;omega) (quX (fun i j h=>qfm h) (nE n).length 0 0 (qBH _) fun j hj=>qfm (by omega))).2]
 rw[if_pos]
 ·rfl
 ·rw[qBP,hl]
  unfold Fits
  simp only[qBJ,List.length_range']
  have ht:n*(if 0<B then 2 else 1)≤2*n:=by split <;> omega
  generalize n*(if 0<B then 2 else 1)=t at ht
  have hw:wd n t≤1:=by
   unfold wd
   split
   ·omega
   ·have:len ((t+1)/n)≤2:=qfi.2 (Nat.div_lt_of_lt_mul (by omega))
    omega
  have h4:n*wd n t≤n*1:=Nat.mul_le_mul_left _ hw
  have h5:t/2^wd n t≤t:=qCx _ _
  omega
def wnt:Nat→qD0
 | 0=>[]
 | k+1=>(if 0<k then wnt k++[32] else wnt k)++dcI (k:Int)
theorem qxT:∀ n:_root_.Fin 101,dkj (iz (qBx n.val))=wnt n.val:=by decide +kernel
theorem qs9:∀ k,k≤100→(wnt k).length≤4*k
 | 0,_=>by simp[wnt]
 | k+1,h=>by
  have ih:=qs9 k (by omega)
  have:=qip (n:=(k:Int)) (by omega)
  unfold wnt
  split <;> simp <;> omega
theorem quZ {n:Nat}(hF:2000200≤F)(hg:Gr g)(hn:n≤100):zH F g B l K (wsN [110,111,100,101,115] [(n:Int)])=some (nE n,B,l,K,[111,107],0):=by
 have hs:∀ x∈[(n:Int)],0≤x∧x<1000:=by simp;omega
 unfold zH
 rw[qgh (by omega) hg,qBi,qgx (by unfold By;decide) (by decide) (by decide) (by simp) hs,qBi]
 rw[show idx (([110,111,100,101,115]:qD0)::[(n:Int)].map dcI) (0:Int)=some [110,111,100,101,115] from rfl,qBi,qeQ,qBi]
 rw[if_pos (by decide)]
 unfold qb9
 rw[qgq,qBi,qhP (N:=1) (by omega) (by simp) rfl hs]
 simp only[qBi,if_true]
 rw[qo7 (by omega),if_neg (by omega),qBi,qjK,qBo]
 rfl
theorem qxA (hF:2000200≤F)(hg:Gr g)(ha:0≤a∧a<1000):∃ c,IsCore g c∧(a<g.length→∀ x,itoaC (c a.toNat:Int)=some x→zH F g B l K (wsN [99,111,114,101] [a])=some (zE (0,x) g B l K)):=by
 obtain ⟨c,hc,h2⟩:=qqy (F:=F) (B:=B) (l:=l) (K:=K) (s:=[111,107]) (by omega) hg ha.1
 refine ⟨c,hc,fun hlt x hx=>?_⟩
 rw[if_pos hlt,hx,qBi] at h2
 have hn:∀ n∈[a],0≤n∧n<1000:=by simpa using ha
 unfold zH
 rw[qgh (by omega) hg,qBi,qgx (by unfold By;decide) (by decide) (by decide) (by simp) hn,qBi]
 rw[show idx (([99,111,114,101]:qD0)::[a].map dcI) (0:Int)=some [99,111,114,101] from rfl,qBi,qeQ,qBi]
 rw[if_neg (by decide),if_neg (by decide),if_neg (by decide),if_neg (by decide),if_neg (by decide),if_neg (by decide),if_neg (by decide),if_neg (by decide),if_neg (by decide),if_neg (by decide),if_pos (by decide)]
 unfold qcd
 rw[qgq,qBi,qhP (N:=1) (by omega) (by simp) rfl hn]
 simp only[qBi,if_true]
 rw[h2,qBi,qjK]
 rfl
theorem qsp {F n:Nat}{a:Int}{x55 x111:DR}{x83 x109 x139:qD0}{x84 x110 x140:Int}(hn:n≤100)(hF:200≤F):∀ k i,n<k+i→i≤n →
  jd F (n:Int) a x55 x83 x84 x109 x110 x111 x139 x140 k (wnt i,(i:Int))=jb F a x55 x83 x84 x109 x110 x111 x139 x140 (wnt n)
 | 0,_,_,_=>by omega
 | k+1,i,h,hi=>by
  show qcD F (n:Int) a x55 x83 x84 x109 x110 x111 x139 x140 (jd F (n:Int) a x55 x83 x84 x109 x110 x111 x139 x140 k) (wnt i) (i:Int)=_
  unfold qcD
  by_cases hlt:i<n
  ·rw[if_pos (by simpa using hlt)]
   have hw:=qs9 i (by omega)
   have hd:=qip (n:=(i:Int)) (by omega)
   have step:∀ w:qD0,w.length≤500→wnt (i+1)=w++dcI (i:Int)→jc F (jd F (n:Int) a x55 x83 x84 x109 x110 x111 x139 x140 k) (i:Int) w=jb F a x55 x83 x84 x109 x110 x111 x139 x140 (wnt n):=fun w hwl e=>by
    unfold jc
    rw[qhz (by omega) (by omega),qBi,kG (by omega),qBi,qu (by omega),← e]
    exact qsp hn hF k (i+1) (by omega) (by omega)
   by_cases h0:0<i
   ·rw[if_pos (by simpa using h0),kG (by simp;omega),qBi]
    exact step _ (by simp;omega) (by rw[wnt,if_pos h0])
   ·rw[if_neg (by simpa using h0)]
    exact step _ (by omega) (by rw[wnt,if_neg h0])
  ·rw[if_neg (by simpa using hlt),show i=n by omega]
theorem qk5 {n:Int}(hF:2000200≤F):qfJ F g B l K n a=some true:=by
 unfold qfJ
 have hbg:qdJ F=some true:=by obtain ⟨n,rfl⟩:∃ n,F=n+400:=⟨F-400,by omega⟩;exact qqw n
 rw[hbg,qBi,if_neg (by decide)]
 split
 ·rfl
 rename_i hr
 simp only[qCK,decide_eq_true_eq,not_or,Int.not_lt,Int.not_le] at hr
 obtain ⟨⟨⟨r1,r2⟩,r3⟩,r4⟩:=hr
 obtain ⟨n,rfl⟩:=qBm (show 0≤n by omega)
 obtain ⟨a,rfl⟩:=qBm r3
 have q1:0≤(n:Int)∧(n:Int)<1000:=by omega
 have q2:0≤(a:Int)∧(a:Int)<1000:=by omega
 have d1:=qip q1
 have d2:=qip q2
 have hn:n≤100:=by omega
 rw[qhz (by omega) q1,qBi,kG (by simp;omega),qBi]
 have ew:([110,111,100,101,115,32]:qD0)++dcI (n:Int)=wsN [110,111,100,101,115] [(n:Int)]:=by simp[wsN]
 rw[ew]
 have hc:yP F g B l K=some (if gchk g≠0 then gchk g else hcE B l K):=qk6 (by omega) fun _=>qgm
 by_cases hz:(if gchk g≠0 then gchk g else hcE B l K)=0
 rotate_left
 ·rw[qzL hc hz,qBi]
  unfold qbL
  rw[if_pos (by simpa using hz),hc]
  simpa using hz
 have hg0:gchk g=0:=by
  by_cases h:gchk g=0
  ·exact h
  ·rw[if_pos h] at hz;exact absurd hz h
 have hz':=hz
 rw[if_neg (by rw[hg0];decide)] at hz
 have hg:=jP.1 hg0
 rw[qy0 (by rw[hc,hz']),quZ hF hg hn,qBi]
 have hE:=qqO hn
 have hdo:∀ s:qD0,vY F (nE n) B l K s=zH F (nE n) B l K s:=fun s=>qy0 (by rw[qk6 (by omega) fun _=>qgm,if_neg (by rw[jP.2 hE];decide),hz])
 unfold qbL
 rw[if_neg (by simp),hdo,qu0 hF hE,qBi,qhz (by omega) q2,qBi,kG (by simp;omega),qBi]
 have e1:([112,97,114,116,32]:qD0)++dcI (a:Int)=wsN [112,97,114,116] [(a:Int)]:=by simp[wsN]
 have e2:([99,111,114,101,32]:qD0)++dcI (a:Int)=wsN [99,111,114,101] [(a:Int)]:=by simp[wsN]
 have e3:([108,105,115,116,32]:qD0)++dcI (a:Int)=wsN [108,105,115,116] [(a:Int)]:=by simp[wsN]
 rw[e1,hdo,qxC hF hE q2,qBi]
 unfold qds
 rw[qhz (by omega) q2,qBi,kG (by simp;omega),qBi,e2,hdo]
 have ha:a<n:=by omega
 obtain ⟨c,hcr,h5⟩:=qxA (F:=F) (g:=nE n) (B:=B) (l:=l) (K:=K) (a:=(a:Int)) hF hE q2
 have hc0:=qxu hcr ha
 rw[h5 (by simp;omega) [48] (by rw[qBo,hc0];exact qiX (n:=0) (by decide)),qBi]
 unfold qdt
 obtain ⟨t,h6,h7⟩:=qtt (F:=F) (g:=nE n) (B:=B) (l:=l) (K:=K) hF hE
 rw[qBa] at h6
 have h8:t=[48]:=by
  have:itoaC (([]:List (qD0)).length:Int)=some [48]:=qiX (n:=0) (by decide)
  rw[this] at h6;exact (Option.some.inj h6).symm
 subst h8
 rw[hdo,h7,qBi,qhz (by omega) q2,qBi,kG (by simp;omega),qBi,e3,hdo,qxB hF hE hz q2,qBi,qAm hn hz,if_pos rfl]
 unfold qdu
 have hl:=qsp (F:=F) (n:=n) (a:=(a:Int)) (x55:=zE (mayT (ordR (ordL (nE n))) 4) (nE n) B l K) (x111:=zE (0,[48]) (nE n) B l K) (x83:=(zE (oneT [111,107] (spartL (nE n)) a) (nE n) B l K).2.2.2.2.1) (x84:=(zE (oneT [111,107] (spartL (nE n)) a) (nE n) B l K).2.2.2.2.2) (x109:=(zE (0,[48]) (nE n) B l K).2.2.2.2.1) (x110:=(zE (0,[48]) (nE n) B l K).2.2.2.2.2)
  (x139:=(zE (findT (nE n) a) (nE n) B l K).2.2.2.2.1) (x140:=(zE (findT (nE n) a) (nE n) B l K).2.2.2.2.2) hn (by omega) F 0 (by omega) (by omega)
 rw[show (wnt 0,((0:Nat):Int))=(([]:qD0),(0:Int)) from rfl] at hl
 rw[hl]
 have z1:mayT (ordR (ordL (nE n))) 4=(0,wnt n):=by
  rw[qz6]
  unfold mayT ordR
  dsimp only
  rw[if_neg (by decide),qxT ⟨n,by omega⟩]
 have z2:oneT [111,107] (spartL (nE n)) (a:Int)=(0,dcI (a:Int)):=by
  unfold oneT
  rw[(qeR hE).len,if_pos (by simp;omega),qBo,qx3 hn ha]
 have z3:findT (nE n) (a:Int)=(0,[]):=by
  unfold findT
  rw[if_pos (by simp;omega),qpK]
  rfl
 rw[z1,z2,z3]
 unfold jb qa9 zE dkE
 simp only[ne_eq,not_true_eq_false,if_false]
 rw[if_pos (by simp[qnA]),qhz (by omega) q2,qBi]
 simp[qnA]
end Go.Proofs.YthibchijlpflmaaGreatDoor
