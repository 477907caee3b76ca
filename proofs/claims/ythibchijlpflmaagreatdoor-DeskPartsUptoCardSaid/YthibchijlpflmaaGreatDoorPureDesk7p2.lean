/- Plain facts of what the functions of this seat compute, part 2. -/
import Derived.Test.YthibchijlpflmaaGreatDoorPureDesk7
import Derived.KernelRfl
import Derived.Lib.SlicesCompact
import Derived.Lib.SplitLaws
open BitVec renaming ofNat→qCW, ofInt→qC8
open Bool renaming false_eq_true→qCF, and_eq_true→qC2, not_true→qDl, or_eq_true→qDN, not_eq_true'→qDR, not_false→qEP
open Int renaming eq_ofNat_of_zero_le→qCp, toNat_natCast→qCs, ediv_le_self→qEC
open List renaming getElem?_eq_getElem→qCn, replicate→qCo, mem_of_getElem?→qCq, mem_append→qCr, length_append→qCt, mem_cons→qCu, append_assoc→qCv, drop_eq_getElem_cons→qCw, drop_eq_nil_of_le→qCB, mem_cons_self→qCC, mem_cons_of_mem→qCD, getElem_mem→qCG, length_cons→qCH, range→qCL, nil_append→qCM, mem_map→qCV, length_map→qCX, drop_zero→qCY, append_nil→qC0, pairwise_iff_getElem→qC4, map_cons→qC5, ext_getElem→qDe, perm_middle→qDi, replicate_succ→qDp, cons_append→qDt, nodup_cons→qDw, mem_filter→qDy, mem_range→qDA, map_append→qDD, take_length→qDI, nodup_nil→qDL, length_nil→qDP, getElem_range→qDY, length_singleton→qD1, drop_succ_cons→qEb, singleton_append→qEh, getD→qEj, filter_cons→qEl, getElem_map→qEm, mem_iff_getElem→qEn, filter_sublist→qEo, nodup_range→qED, range_succ→qEH, getElem_set→qE5
open List.Perm renaming refl→qCU
open Nat renaming le_refl→qCE, mul_le_mul_right→qCR, zero_le→qCT, pow_le_pow_right→qDd, le_trans→qDf, zero_add→qDg, add_mul→qDm, div_le_div_right→qDQ, div_le_self→qD2, add_comm→qD9, add_sub_cancel→qEf, div_add_mod→qEq, mul_le_mul→qEv, lt_succ_self→qE0, one_mul→qFk
open Option renaming bind_some→qCm, bind_eq_some_iff→qC6, map_some→qDk, map_bind→qE9
open Option.some renaming injEq→qCy
open Prod.mk renaming injEq→qEV
namespace Go.Proofs.YthibchijlpflmaaGreatDoor
open Go SX
variable {F:Nat} {rec68:(List (Int×Int)×qFm×Int)→Option (List (Int×Int)×qFm)} {l:qFm} {lea0:Int} {o:List (Int×Int)} {rest:qFm} {i:Int}
theorem OI.snoc {g:List (qFm)}(hg:Gr g){out:List Nat}{i:Nat}(h:OI g out)(hi:i<g.length)(hf:free g out i=true):OI g (out++[i]):=by
 obtain ⟨h1,h2⟩:=qjx.1 hf
 refine ⟨List.nodup_append.2 ⟨h.nd,by simp,fun a ha b hb e=>?_⟩,fun x hx=>?_,fun x hx k hk=>?_⟩
 ·simp_all
 ·rcases qCr.1 hx with hx | hx
  ·exact h.lt x hx
  simp_all
 ·rw[qCr]
  rcases qCr.1 hx with hx | hx
  ·exact .inl (h.pre x hx k hk)
  grind [qlK]
def cntP (g:List (qFm))(out:List Nat)(i:Nat):Nat:=((qCL g.length).filter fun k=>decide (k∉out) && ldB g k i).length
theorem qur {g:List (qFm)}{out:List Nat}{i:Nat}(hi:i∉out):cntP g out i=0↔free g out i=true:=by
 rw[qjx]
 unfold cntP
 rw[List.length_eq_zero_iff,List.filter_eq_nil_iff]
 simp only[qDA,qC2,decide_eq_true_eq,qid,not_and]
 grind
theorem qlA {p:Nat→Bool}{n0:Nat}:∀ (L:List Nat),L.Nodup→(L.filter p).length=(L.filter fun k=>p k && decide (k≠n0)).length+if n0∈L∧p n0=true then 1 else 0
 | [],_=>by simp
 | a::L,h=>by
  obtain ⟨h1,h2⟩:=qDw.1 h
  have ih:=qlA (p:=p) (n0:=n0) L h2
  grind
theorem quq {g:List (qFm)}{out:List Nat}{n0 i:Nat}(hn:n0<g.length)(h0:n0∉out):cntP g out i=cntP g (out++[n0]) i+if ldB g n0 i=true then 1 else 0:=by
 unfold cntP
 rw[qlA (n0:=n0) _ qED]
 grind
def ahd (g:List (qFm))(out:List Nat)(i:Nat):Int:=if i∈out then -1 else (cntP g out i:Int)
theorem ahead0 {g:List (qFm)}(hg:Gr g):lens (tn g)=ti g.length (ahd g []):=by
 refine qor (by grind [qgN,lens,qht]) fun t ht=>?_
 have htn:t<g.length:=by grind [lens,qht]
 have htl:t<(tn g).length:=by rw[qht];omega
 rw[qt5 htn]
 have hr:(tn g)[t]?=some (tn g)[t]:=qCn htl
 have e1:gD (lens (tn g)) t=((tn g)[t].length:Int):=by grind [gD,lens]
 have e2:(tn g)[t]=iz ((qCL g.length).filter fun k=>ldB g k t):=by
  refine pwx ((qmm hg).2.1 _ (qCG htl)).1 (qBZ (List.pairwise_lt_range.filter _)) fun z=>?_
  unfold iz
  rw[qCV]
  constructor
  ·intro hz
   have hz0:=((qmm hg).2.1 _ (qCG htl)).2 z hz
   obtain ⟨k,rfl⟩:=qCp hz0.1
   rw[qht] at hz0
   refine ⟨k,qDy.2 ⟨qDA.2 (by omega),?_⟩,rfl⟩
   rw[qid,← qwo hg]
   grind [qfU]
  ·rintro ⟨k,hk,rfl⟩
   have:=(qDy.1 hk).2
   rw[qid,← qwo hg] at this
   grind [qfU]
 grind [qdK,ahd,cntP]
theorem qwK {F n0:Nat}{g:List (qFm)}{out:List Nat}{r:qFm}{o:qFm}{rec18:(qFm×qFm)→Option (qFm×Int)}(hg:Gr g)(hr:g[n0]?=some r)(hno:∀ i,i∈out++[n0]→¬ Ld g n0 i):∀ (k j:Nat),r.length<k+j→j≤r.length →
  qaL F rec18 o (n0:Int) r k (ti g.length (fun i=>if i∈out++[n0] then -1 else (cntP g out i:Int)-if (i:Int)∈r.take j then 1 else 0),(j:Int))=qaK F rec18 o (n0:Int) (ti g.length fun i=>if i∈out++[n0] then -1 else (cntP g out i:Int)-if (i:Int)∈r then 1 else 0)
 | 0,_,_,_=>by omega
 | k+1,j,h,hj=>by
  have h100:=hg.1
  have hrm:=qCq hr
  have hrl:=qca hg hrm
  have hrg:=hg.2.1 r hrm
  show qcT F rec18 o (n0:Int) r (qaL F rec18 o (n0:Int) r k) (ti g.length (fun i=>if i∈out++[n0] then -1 else (cntP g out i:Int)-if (i:Int)∈r.take j then 1 else 0)) (j:Int)=_
  unfold qcT
  by_cases hlt:j<r.length
  ·have hx:=hrg.2 r[j] (qCG hlt)
   obtain ⟨x,hx1⟩:=qCp hx.1
   have hxN:x<g.length:=by omega
   have hld:Ld g n0 x:=qfU.2 ⟨r,hr,by grind⟩
   have hxo:x∉out++[n0]:=fun hm=>hno x hm hld
   have hnew:¬ (x:Int)∈r.take j:=by
    grind [List.getElem_of_mem,qC4]
   have hcb:cntP g out x≤g.length:=by
    grind [cntP]
   rw[if_pos (by simp_all),qj,qCn hlt,hx1]
   simp only[qCm]
   rw[qj,qhr hxN]
   simp only[qCm]
   unfold lett
   rw[if_neg hxo,if_neg hnew,qCs,zK (by omega) (by omega),qn (by omega),qpd]
   have e:(ti g.length fun i=>if i=x then (cntP g out x:Int)-0-1 else if i∈out++[n0] then -1 else (cntP g out i:Int)-if (i:Int)∈r.take j then 1 else 0)=ti g.length fun i=>if i∈out++[n0] then -1 else (cntP g out i:Int)-if (i:Int)∈r.take (j+1) then 1 else 0:=by
    refine qjX fun i _=>?_
    have hm:((i:Int)∈r.take (j+1))↔((i:Int)∈r.take j∨i=x):=by
     grind [jp]
    grind
   show qaL F rec18 o (n0:Int) r k (ti g.length (fun i=>if i=x then (cntP g out x:Int)-0-1 else if i∈out++[n0] then -1 else (cntP g out i:Int)-if (i:Int)∈r.take j then 1 else 0),((j+1:Nat):Int))=_
   rw[e]
   exact qwK hg hr hno k (j+1) (by omega) (by omega)
  grind
theorem qlG {F:Nat}{l:qFm}{v:Int}(hm:l.length≤1000000)(hno:∀ j:Nat,l[j]?≠some v):∀ (k i:Nat),l.length<k+i→i≤l.length→qZ F l v k (i:Int)=some (-1)
 | 0,_,_,_=>by omega
 | k+1,i,h,hi=>by
  show qY F l v (qZ F l v k) (i:Int)=_
  unfold qY
  by_cases hlt:i<l.length
  ·have:=hno i
   rw[qCn hlt] at this
   rw[if_pos (by simp_all),qj,qCn hlt]
   simp only[qCm]
   rw[if_neg (by grind),qn (by omega)]
   exact qlG hm hno k (i+1) (by omega) (by omega)
  ·rw[if_neg (by simp_all)]
   rfl
def ordR (x:Option (List Nat)):qFm×Int:=match x with | none=>([],4) | some o=>(iz o,0)
theorem qto {F:Nat}{g:List (qFm)}(hF:4000≤F)(hg:Gr g):∀ (m k:Nat) (out:List Nat),m<k→out.length+m=g.length→OI g out→vS F g k (ti g.length (ahd g out),iz out)=some (ordR (ordM g m out))
 | m,0,_,h,_,_=>by omega
 | m,k+1,out,h,hm,ho=>by
  have h100:=hg.1
  show qcS F g (vS F g k) (ti g.length (ahd g out)) (iz out)=_
  unfold qcS
  rw[qdK,qgN]
  cases m with
  | zero =>
   rw[if_neg (by simp_all)]
   rfl
  | succ m =>
   rw[if_pos (by grind)]
   unfold zB
   have hz:∀ i,i<g.length→((ti g.length (ahd g out))[i]?=some 0↔free g out i=true):=by
    grind [qhr,ahd,qjx,qur]
   cases hn:nxO g out with
   | none =>
    have:=qlG (F:=F) (l:=ti g.length (ahd g out)) (v:=0) (by rw[qgN];omega) (fun j=>by
     grind [qwH,qgN]) F 0 (by rw[qgN];omega) (by omega)
    rw[show ((0:Nat):Int)=0 from rfl] at this
    rw[this]
    simp only[qCm]
    rw[if_pos (by decide)]
    simp only[ordM,hn]
    rfl
   | some i =>
    obtain ⟨hi,hf,hl⟩:=qql hn
    have:=qoz (F:=F) (l:=ti g.length (ahd g out)) (v:=0) (p:=i) (by rw[qgN];omega) ((hz i hi).2 hf) (fun j hj he=>by
     grind) F 0 (by rw[qgN];omega) (by omega)
    rw[show ((0:Nat):Int)=0 from rfl] at this
    rw[this]
    simp only[qCm]
    obtain ⟨f1,f2⟩:=qjx.1 hf
    have hr:g[i]?=some g[i]:=qCn hi
    have hrl:=qca hg (qCG hi)
    have hno:∀ x,x∈out++[i]→¬ Ld g i x:=fun x hx hld=>by
     rcases qCr.1 hx with hx | hx
     ·exact f1 (ho.pre x hx i hld)
     simp_all
    rw[if_neg (by simp),qj,qhr hi]
    simp only[qCm]
    unfold lett
    rw[qCs,qj,hr]
    simp only[qCm]
    have hstart:(ti g.length (ahd g out)).set i (-1)=ti g.length fun x=>if x∈out++[i] then -1 else (cntP g out x:Int)-if (x:Int)∈(g[i]).take 0 then 1 else 0:=by
     grind [qpd,ahd]
    have hin:=qwK (F:=F) (out:=out) (o:=iz out) (rec18:=vS F g k) hg hr hno F 0 (by omega) (by omega)
    rw[show ((0:Nat):Int)=0 from rfl,← hstart] at hin
    rw[hin]
    unfold qaK
    rw[ko (by grind [qdK])]
    simp only[qCm]
    have hend:(ti g.length fun x=>if x∈out++[i] then -1 else (cntP g out x:Int)-if (x:Int)∈g[i] then 1 else 0)=ti g.length (ahd g (out++[i])):=by
     refine qjX fun x _=>?_
     grind [ahd,quq,qfU,qid]
    have hz2:iz out++[(i:Int)]=iz (out++[i]):=by simp[iz]
    rw[hend,hz2,qto hF hg m k (out++[i]) (by omega) (by grind) (ho.snoc hg hi hf)]
    simp only[ordM,hn]
theorem qvm {g:List (qFm)}(hF:4000≤F):qdB F g=some (if gchk g≠0 then ([],gchk g) else ordR (ordL g)):=by
 unfold qdB
 rw[qry (by omega)]
 simp only[qCm]
 unfold degM
 by_cases h:gchk g=0
 ·have hg:=yi.1 h
  have h100:=hg.1
  have hn:¬ gchk g≠0:=by omega
  rw[if_neg hn,if_neg hn,if_neg (by simp)]
  simp only
  rw[ahead0 hg]
  exact qto hF hg g.length F [] (by omega) (by simp) ⟨qDL,fun i hi=>by grind,fun i hi=>by grind⟩
 simp_all
def dg (g:List (qFm))(S:Nat→Bool)(v:Nat):Nat:=(qCL g.length).countP fun u=>S u && Nb g v u
def KK (g:List (qFm))(k:Nat)(S:Nat→Bool):Prop:=∀ v,v<g.length→S v=true→k≤dg g S v
structure IsCore (g:List (qFm)) (c:Nat→Nat):Prop where
 own:∀ v,v<g.length→c v≤dg g (fun u=>decide (c v≤c u)) v
 max:∀ k S,KK g k S→∀ v,v<g.length→S v=true→k≤c v
theorem qsY {g:List (qFm)}{S T:Nat→Bool}{v:Nat}(h:∀ u,u<g.length→S u=true→T u=true):dg g S v≤dg g T v:=by
 simp_all [dg,List.countP_mono_left]
theorem qhg {p:Nat→Bool}{a:Nat}:∀ {l:List Nat},l.Nodup→a∈l→l.countP p=l.countP (fun u=>p u && decide (u≠a))+if p a then 1 else 0
 | [],_,h=>by grind
 | b::l,hn,h=>by
  obtain ⟨h1,h2⟩:=qDw.1 hn
  rw[List.countP_cons,List.countP_cons]
  rcases qCu.1 h with rfl | h
  ·grind [List.countP_congr]
  ·have hne:b≠a:=fun he=>h1 (he▸h)
   rw[qhg h2 h]
   grind
def sub1 (S:Nat→Bool)(a:Nat):Nat→Bool:=fun u=>S u && decide (u≠a)
theorem qvR {g:List (qFm)}{S:Nat→Bool}{a v:Nat}(ha:a<g.length)(hs:S a=true):dg g S v=dg g (sub1 S a) v+if Nb g v a then 1 else 0:=by
 unfold dg
 rw[qhg (a:=a) qED (qDA.2 ha)]
 grind [sub1]
def Best (L:qFm)(b:Int)(i:Nat):Prop :=
 (b=-1∧∀ j,j<i→L.getD j 0<0)∨∃ v:Nat,v<i∧b=(v:Int)∧0≤L.getD v 0∧∀ j,j<i→0≤L.getD j 0→L.getD v 0≤L.getD j 0
variable {f:Bool}{B K N a back hw k lw many most node t:Int}{R:List (Int×Int)}{ws:List (qFm)}{lim p r:Nat}{α:Type}{L S b hb lb ns s w x xh xl:qFm}
theorem qs8 {i:Nat}(h:i<L.length):L.getD i 0=L[i]:=by simp_all
theorem qtf {F:Nat}{L:qFm}(hm:L.length≤1000000):∀ (k i:Nat) (b:Int),L.length<k+i→i≤L.length→Best L b i→∃ b',kH F L k (b,(i:Int))=some (b',L)∧Best L b' L.length
 | 0,_,_,_,_,_=>by omega
 | k+1,i,b,h,hi,hb=>by
  show ∃ b',j7 F L (kH F L k) b (i:Int)=some (b',L)∧_
  unfold j7 vk vj vi
  by_cases hlt:i<L.length
  ·have hgi:=qs8 hlt
   have hrec:=fun b=>qtf (F:=F) hm k (i+1) b (by omega) (by omega)
   rw[if_pos (by simp;omega),qj,qCn hlt]
   simp only[qCm]
   rw[qn (by omega)]
   have stay:(L[i]<0∨∃ v:Nat,v<i∧b=(v:Int)∧L.getD v 0≤L[i])→Best L b (i+1):=by
    intro hc
    rcases hb with ⟨hb1,hb2⟩ | ⟨v,hv,hb1,hb2,hb3⟩
    ·rcases hc with hc | ⟨v,_,hc,_⟩
     ·refine .inl ⟨hb1,fun j hj=>?_⟩
      by_cases hji:j=i
      ·subst hji;omega
      ·exact hb2 j (by omega)
     ·omega
    ·refine .inr ⟨v,by omega,hb1,hb2,fun j hj h0=>?_⟩
     by_cases hji:j=i
     ·subst hji
      rcases hc with hc | ⟨v',_,hc1,hc2⟩
      ·omega
      ·have:v'=v:=by omega
       subst this;omega
     ·exact hb3 j (by omega) h0
   by_cases h0:0≤L[i]
   ·rw[if_pos (by simpa using h0)]
    by_cases hb0:b<0
    ·rw[if_pos (by simpa using hb0),if_pos trivial]
     refine hrec _ (.inr ⟨i,by omega,rfl,by omega,fun j hj h1=>?_⟩)
     by_cases hji:j=i
     ·subst hji;omega
     ·rcases hb with ⟨_,hb2⟩ | ⟨v,hv,hb1,_⟩
      ·have:=hb2 j (by omega);omega
      ·omega
    ·rw[if_neg (by simpa using hb0)]
     rcases hb with ⟨hb1,_⟩ | ⟨v,hv,hb1,hb2,hb3⟩
     ·omega
     ·have hgv:=qs8 (show v<L.length by omega)
      rw[hb1,qj,qCn (by omega)]
      simp only[qCm]
      by_cases hc:L[i]<L[v]
      ·rw[if_pos (by simpa using hc)]
       refine hrec _ (.inr ⟨i,by omega,rfl,by omega,fun j hj h1=>?_⟩)
       by_cases hji:j=i
       ·subst hji;omega
       ·have:=hb3 j (by omega) h1;omega
      ·rw[if_neg (by simpa using hc),← hb1]
       exact hrec _ (stay (.inr ⟨v,hv,hb1,by omega⟩))
   ·rw[if_neg (by simpa using h0),if_neg (by simp)]
    exact hrec _ (stay (.inl (by omega)))
  ·rw[if_neg (by simp;omega)]
   refine ⟨b,rfl,?_⟩
   rw[show L.length=i from by omega];exact hb
theorem qnc {X:List (qFm)}(hm:L.length≤1000000)(hF:L.length<F):∃ b',vA F X L=some (b',L)∧Best L b' L.length:=by
 unfold vA
 exact qtf hm F 0 (-1) (by omega) (by omega) (.inl ⟨rfl,by omega⟩)
def dl (n:Nat)(L:qFm)(r:List Nat):qFm:=(qCL n).map fun u=>if decide (u∈r) && decide (0≤L.getD u 0) then L.getD u 0-1 else L.getD u 0
theorem qvT (n:Nat)(L:qFm)(r:List Nat):(dl n L r).length=n:=by simp[dl]
theorem qAS {n:Nat}{r:List Nat}{u:Nat}(h:u<n):(dl n L r)[u]?=some (if decide (u∈r) && decide (0≤L.getD u 0) then L.getD u 0-1 else L.getD u 0):=by simp[dl,h]
theorem qvV {F n:Nat}{L:qFm}{r:List Nat}(hr:∀ x∈r,x<n)(hnd:r.Nodup)(hL:∀ u,u<n→-1≤L.getD u 0∧L.getD u 0≤1000000)(hm:r.length≤1000000):∀ (k j:Nat),r.length<k+j→j≤r.length →
  v7 F (r.map fun (x:Nat)=>(x:Int)) k ((j:Int),dl n L (r.take j))=some (dl n L r)
 | 0,_,_,_=>by omega
 | k+1,j,h,hj=>by
  show qbp F (r.map fun (x:Nat)=>(x:Int)) (v7 F (r.map fun (x:Nat)=>(x:Int)) k) (j:Int) (dl n L (r.take j))=_
  unfold qbp v6
  by_cases hlt:j<r.length
  ·have hrec:=qvV (F:=F) hr hnd hL hm k (j+1) (by omega) (by omega)
   have hx:=hr _ (qCG hlt)
   have hni:r[j]∉r.take j:=fun hmem=>by
    grind [qEn,List.getElem_inj]
   have hv:(dl n L (r.take j))[r[j]]?=some (L.getD r[j] 0):=by grind [qAS]
   have hLx:=hL _ hx
   have hiff:∀ u,u∈r.take (j+1)↔u∈r.take j∨u=r[j]:=fun u=>by grind [jp]
   rw[if_pos (by simp_all),qj,List.getElem?_map,qCn hlt]
   simp only[qDk,qCm]
   rw[qj,hv]
   simp only[qCm]
   by_cases h0:0≤L.getD r[j] 0
   ·rw[if_pos (by grind),zK (by omega) (by omega)]
    simp only[lett,qCs]
    rw[qn (by omega)]
    have e:(dl n L (r.take j)).set r[j] (L.getD r[j] 0-1)=dl n L (r.take (j+1)):=by
     apply qDe (by simp[dl])
     intro u h1 h2
     rw[qvT] at h2
     rw[qE5]
     simp only[dl,qEm,qDY]
     grind
    simp_all
   ·rw[if_neg (by grind),qn (by omega)]
    have e:dl n L (r.take j)=dl n L (r.take (j+1)):=by
     apply qDe (by simp[dl])
     intro u h1 h2
     simp only[dl,qEm,qDY]
     grind
    simp_all
  grind
def lfC (g:List (qFm))(S:Nat→Bool):qFm:=(qCL g.length).map fun v=>if S v then (dg g S v:Int) else -1
theorem qgG (g:List (qFm))(S:Nat→Bool):(lfC g S).length=g.length:=by simp[lfC]
theorem qoF {g:List (qFm)}{S:Nat→Bool}{v:Nat}(h:v<g.length):(lfC g S)[v]?=some (if S v then (dg g S v:Int) else -1):=by simp[lfC,h]
theorem qjD {g:List (qFm)}{S:Nat→Bool}{v:Nat}(h:v<g.length):(lfC g S).getD v 0=if S v then (dg g S v:Int) else -1:=by grind [qoF]
theorem qvQ (g:List (qFm))(S:Nat→Bool)(v:Nat):dg g S v≤g.length:=by
 grind [dg,List.countP_le_length]
theorem qyH {v:Nat}{g : List (qFm)}{S : Nat → Bool}(hF : 2000 ≤ F)(hg : Gr g)(hv : v < g.length)(hS : S v = true) : qax F (nr g) (lfC g S) (v : Int) = some (lfC g (sub1 S v)) := by
  have h1 := hg.1
  unfold qax
  rw [qj, qoF hv]
  simp only [qCm, lett, qCs]
  rw [qj, qgJ hv, qpT]
  simp only [qCm]
  have hgd : ∀ u, u < g.length → ((lfC g S).set v (-1)).getD u 0 = if u = v then -1 else (lfC g S).getD u 0 := fun u hu => by
    unfold qEj
    rw [List.getElem?_set]
    by_cases h : v = u
    · subst h; rw [if_pos rfl, if_pos (by rw [qgG]; omega), if_pos rfl]; rfl
    grind
  have hd0 : (lfC g S).set v (-1) = dl g.length ((lfC g S).set v (-1)) ((nbs g v).take 0) := by
    apply qDe (by simp [dl, lfC])
    simp_all [dl]
  have := qvV (F := F) (n := g.length) (L := (lfC g S).set v (-1)) (r := nbs g v) (fun x hx => (qz2 hg ((qoH hg).1 hx)).2) ((qA9 g v).imp fun h => by omega) (fun u hu => by
    grind [qjD, qvQ]) (by grind [qtm]) F 0 (by grind [qtm]) (by omega)
  rw [← hd0] at this
  refine Eq.trans this ?_
  congr 1
  apply qDe (by simp [dl, lfC])
  intro u b1 b2
  rw [qvT] at b1
  simp only [dl, lfC, qEm, qDY]
  have hgu := hgd u b1
  rw [qjD b1] at hgu
  unfold lfC at hgu
  rw [hgu]
  by_cases huv : u = v
  · subst huv
    rw [if_pos rfl]
    simp [sub1]
  · rw [if_neg huv]
    have hsub : sub1 S v u = S u := by simp [sub1, huv]
    rw [hsub]
    by_cases hSu : S u = true
    · rw [if_pos hSu, if_pos hSu]
      have hm := qvR (g := g) (S := S) (a := v) (v := u) hv hS
      have hmem : decide (u ∈ nbs g v) = Nb g u v := by rw [qAC]; by_cases h : Nb g v u = true
                                                        · grind [qoH]
                                                        · rw [Bool.not_eq_true] at h; grind [qoH]
      grind
    grind
structure PInv (g:List (qFm)) (S:Nat→Bool) (c:Nat→Nat) (most:Nat):Prop where
 le:∀ v,v<g.length→S v=false→c v≤most
 ub:∀ k T,KK g k T→(∀ v,v<g.length→T v=true→S v=false→k≤c v)∧((∃ v,v<g.length∧T v=true∧S v=false)→k≤most)
 cur:∃ R,KK g most R∧(∀ u,u<g.length→S u=true→R u=true)∧∀ u,u<g.length→R u=true→S u=false→most≤c u
 own:∀ v,v<g.length→S v=false→∃ T,T v=true∧KK g (c v) T∧∀ u,u<g.length→T u=true→S u=false→c v≤c u
def updC (c:Nat→Nat)(a x:Nat):Nat→Nat:=fun v=>if v=a then x else c v
theorem quL {g:List (qFm)}{S:Nat→Bool}{c:Nat→Nat}{most a:Nat}(h:PInv g S c most)(ha:a<g.length)(hSa:S a=true)(hmin:∀ u,u<g.length→S u=true→dg g S a≤dg g S u) :
  PInv g (sub1 S a) (updC c a (max most (dg g S a))) (max most (dg g S a)):=by
 have hs:∀ v,sub1 S a v=false→v≠a→S v=false:=fun v h1 h2=>by simpa[sub1,h2] using h1
 have cur':∃ R,KK g (max most (dg g S a)) R∧R a=true∧(∀ u,u<g.length→sub1 S a u=true→R u=true)∧∀ u,u<g.length→R u=true→sub1 S a u=false→max most (dg g S a)≤updC c a (max most (dg g S a)) u:=by
  by_cases hd:dg g S a≤most
  ·obtain ⟨R,r1,r2,r3⟩:=h.cur
   rw[Nat.max_eq_left hd]
   refine ⟨R,r1,r2 a ha hSa,fun u hu hsu=>r2 u hu (by grind [sub1]),fun u hu hRu hsu=>?_⟩
   unfold updC
   grind
  ·rw[Nat.max_eq_right (by omega)]
   refine ⟨S,fun u hu hSu=>hmin u hu hSu,hSa,fun u hu hsu=>by grind [sub1],fun u hu hRu hsu=>?_⟩
   unfold updC
   grind
 have hle:most≤max most (dg g S a):=Nat.le_max_left _ _
 have key:∀ k T,KK g k T→T a=true→k≤max most (dg g S a):=fun k T hT hTa=>by
  by_cases hex:∃ v,v<g.length∧T v=true∧S v=false
  ·exact qDf ((h.ub k T hT).2 hex) hle
  ·have hsub:∀ u,u<g.length→T u=true→S u=true:=fun u hu hTu=>by
    simp_all
   exact qDf (hT a ha hTa) (qDf (qsY hsub) (Nat.le_max_right _ _))
 refine ⟨fun v hv hsv=>?_,fun k T hT=>⟨fun v hv hTv hsv=>?_,?_⟩,?_,fun v hv hsv=>?_⟩
 ·unfold updC
  by_cases hva:v=a
  ·simp_all
  ·rw[if_neg hva];exact qDf (h.le v hv (hs v hsv hva)) hle
 ·unfold updC
  by_cases hva:v=a
  ·grind
  ·rw[if_neg hva];exact (h.ub k T hT).1 v hv hTv (hs v hsv hva)
 ·rintro ⟨v,hv,hTv,hsv⟩
  by_cases hva:v=a
  ·grind
  ·exact qDf ((h.ub k T hT).2 ⟨v,hv,hTv,hs v hsv hva⟩) hle
 ·grind
 ·by_cases hva:v=a
  ·obtain ⟨R,r1,r0,r2,r3⟩:=cur'
   subst hva
   have e:updC c v (max most (dg g S v)) v=max most (dg g S v):=if_pos rfl
   grind
  ·obtain ⟨T,t1,t2,t3⟩:=h.own v hv (hs v hsv hva)
   grind [updC]
theorem quK {g:List (qFm)}{S:Nat→Bool}{c:Nat→Nat}{most:Nat}(h:PInv g S c most)(hS:∀ v,v<g.length→S v=false):IsCore g c:=by
 refine ⟨fun v hv=>?_,fun k T hT v hv hTv=>(h.ub k T hT).1 v hv hTv (hS v hv)⟩
 obtain ⟨T,t1,t2,t3⟩:=h.own v hv (hS v hv)
 exact qDf (t2 v hv t1) (qsY fun u hu hTu=>decide_eq_true (t3 u hu hTu (hS u hu)))
def nlC (n:Nat)(c:Nat→Nat):qFm:=(qCL n).map fun v=>(c v:Int)
theorem qwC {n v:Nat}{c:Nat→Nat}(h:v<n):(nlC n c)[v]?=some (c v:Int):=by simp[nlC,h]
theorem qBb {n a x:Nat}{c:Nat→Nat}:(nlC n c).set a (x:Int)=nlC n (updC c a x):=by
 apply qDe (by simp[nlC])
 grind [nlC,updC]
def cntS (n:Nat)(S:Nat→Bool):Nat:=(qCL n).countP S
theorem qrt {n a:Nat}{S:Nat→Bool}(ha:a<n)(hs:S a=true):cntS n S=cntS n (sub1 S a)+1:=by
 unfold cntS
 rw[qhg (a:=a) qED (qDA.2 ha),if_pos hs]
 rfl
theorem qjG {F:Nat}{g:List (qFm)}(hF:2000≤F)(hg:Gr g):∀ (k:Nat) (S:Nat→Bool) (c:Nat→Nat) (most:Nat) (b:Int),cntS g.length S<k→PInv g S c most→Best (lfC g S) b g.length→most≤1000000 →
  ∃ c',IsCore g c'∧qdd F (nr g) k (nlC g.length c,(most:Int),b,lfC g S)=some (nlC g.length c',0)
 | 0,_,_,_,_,h,_,_,_=>by omega
 | k+1,S,c,most,b,h,hp,hb,hm=>by
  have h1:=hg.1
  show ∃ c',IsCore g c'∧qdb F (nr g) (qdd F (nr g) k) (nlC g.length c) (most:Int) b (lfC g S)=_
  unfold qdb
  rcases hb with ⟨hb1,hb2⟩ | ⟨v,hv,hb1,hb2,hb3⟩
  ·rw[if_neg (by simp_all)]
   refine ⟨c,quK hp fun v hv=>?_,rfl⟩
   grind [qjD]
  ·have hSv:S v=true:=by
    grind [qjD]
   have hmin:∀ u,u<g.length→S u=true→dg g S v≤dg g S u:=fun u hu hSu=>by
    grind [qjD]
   have hdl:=qvQ g S v
   rw[if_pos (by simp_all),hb1,qj,qoF hv,if_pos hSv]
   simp only[qCm]
   rw[qj,qwC hv]
   simp only[qCm,lett,qCs]
   have hmx:imax (most:Int) (dg g S v:Int)=((max most (dg g S v):Nat):Int):=by grind [imax]
   rw[hmx,qBb,qyH hF hg hv hSv]
   simp only[qCm]
   obtain ⟨b',hl,hbb⟩:=qnc (F:=F) (X:=nr g) (L:=lfC g (sub1 S v)) (by rw[qgG];omega) (by rw[qgG];omega)
   rw[hl]
   simp only[qCm]
   rw[qgG] at hbb
   have hc:=qrt hv hSv
   exact qjG hF hg k _ _ _ b' (by omega) (quL hp hv hSv hmin) hbb (by omega)
theorem qwr {F:Nat}{g:List (qFm)}(hg:Gr g):∀ (k i:Nat),g.length<k+i→i≤g.length→∀ L,L=(lfC g fun _=>true).take i →
  qde F (nr g) k ((i:Int),L)=qbx F (nr g) (lfC g fun _=>true)
 | 0,_,_,_=>by omega
 | k+1,i,h,hi=>by
  have h1:=hg.1
  intro L hL
  show qdc F (nr g) (qde F (nr g) k) (i:Int) L=_
  unfold qdc
  have hLl:L.length=i:=by grind [qgG]
  by_cases hlt:i<g.length
  ·rw[if_pos (by simp[qgK];omega),qj,qgJ hlt]
   simp only[qCm]
   rw[ko (by grind)]
   simp only[qCm]
   rw[qn (by omega)]
   refine qwr hg k (i+1) (by omega) (by omega) _ ?_
   rw[jp (by rw[qgG];omega),← hL]
   congr 2
   have:=qoF (g:=g) (S:=fun _=>true) hlt
   grind [qpT,dg,nbs]
  grind [qgK,qgG]
theorem qrZ {g:List (qFm)}(hF:2000≤F)(hg:Gr g):∃ c,IsCore g c∧qda F g=some (nlC g.length c,0):=by
 have h1:=hg.1
 unfold qda
 rw[yY (by omega),yi.2 hg]
 simp only[qCm]
 rw[if_neg (by simp),qtn hF hg]
 simp only[qCm]
 have hl:=qwr (F:=F) hg F 0 (by omega) (by omega) [] (by simp)
 rw[show ((0:Nat):Int)=0 from rfl] at hl
 rw[hl]
 unfold qbx
 obtain ⟨b',hl,hbb⟩:=qnc (F:=F) (X:=nr g) (L:=lfC g fun _=>true) (by rw[qgG];omega) (by rw[qgG];omega)
 rw[qgG] at hbb
 have hmk:mk 17592186044416 (0:Int) ((nr g).length:Int)=some (nlC g.length fun _=>0):=by
  unfold mk
  rw[qgK,if_pos ⟨by omega,by omega⟩,qCs]
  congr 1
  apply qDe (by simp[nlC])
  grind [nlC]
 rw[hmk,hl]
 simp only[qCm]
 have hcl:cntS g.length (fun _=>true)≤g.length:=by
  grind [cntS,List.countP_le_length]
 exact qjG hF hg F (fun _=>true) (fun _=>0) 0 b' (by omega) ⟨fun v _ h=>by omega,fun k T _=>⟨fun v _ _ h=>by grind,fun ⟨v,_,_,h⟩=>by grind⟩,⟨fun _=>true,fun v _ _=>qCT _,fun _ _ _=>rfl,fun _ _ _ h=>by omega⟩,fun v _ h=>by grind⟩ hbb (by omega)
theorem qA7 {n:Nat}{y:α}(h:n≤lim):mk lim y (n:Int)=some (qCo n y):=by
 grind [mk]
def qbj {σ τ:Type}(yy:σ→qFm→Option (σ ⊕ τ)):List (qFm)→σ→Option (σ ⊕ τ)
 | [],s=>some (.inl s)
 | r::R,s=>(yy s r).bind (Sum.elim (fun s'=>qbj yy R s') (fun t=>some (.inr t)))
theorem qhp {σ τ:Type}{yy:σ→qFm→Option (σ ⊕ τ)}:∀ (A B:List (qFm)) (s:σ),qbj yy (A++B) s=(qbj yy A s).bind (Sum.elim (fun s'=>qbj yy B s') (fun t=>some (.inr t)))
 | [],B,s=>rfl
 | p::A,B,s=>by
  show (yy s p).bind _=((yy s p).bind _).bind _
  cases yy s p with
  | none=>rfl
  | some r =>
   cases r with
   | inl s'=>exact qhp A B s'
   | inr t=>rfl
def rowX (X:List (qFm))(b:Int):qFm:=X.getD b.toNat []
def t3 (X:List (qFm))(a b:Int)(cs:qFm):List (qFm):=(cs.filter fun c=>decide (c∈rowX X b) && decide (a<b)).map fun c=>[a,b,c]
def t2 (X:List (qFm))(a:Int):qFm→List (qFm)
 | []=>[]
 | b::cs=>t3 X a b cs++t2 X a cs
def t1 (X:List (qFm))(i:Nat):List (qFm)→List (qFm)
 | []=>[]
 | l::R=>t2 X (i:Int) l++t1 X (i+1) R
def Rws (X:List (qFm)):Prop:=X.length≤100∧∀ l∈X,l.Pairwise (·<·)∧l.length≤100∧∀ x∈l,0≤x∧x<(X.length:Int)
theorem qAt {σ τ:Type}{F:Nat}{yy:σ→qFm→Option (σ ⊕ τ)}{X:List (qFm)}{a b:Int}{cs:qFm}{i:Nat}{rec163:(Int×σ)→Option (σ ⊕ τ)}(hF:200000≤F)(hX:Rws X)(hb:0≤b∧b<(X.length:Int))(hm:cs.length≤1000000):∀ (k j:Nat) (s:σ),cs.length<k+j→j≤cs.length →
  yc F yy rec163 X a (i:Int) b cs k ((j:Int),s)=(qbj yy (t3 X a b (cs.drop j)) s).bind (Sum.elim (fun s'=>jy F yy rec163 (i:Int) s') (fun t=>some (.inr t)))
 | 0,_,_,_,_=>by omega
 | k+1,j,s,h,hj=>by
  show jw F yy rec163 X a (i:Int) b cs (yc F yy rec163 X a (i:Int) b cs k) (j:Int) s=_
  unfold jw jz
  by_cases hlt:j<cs.length
  ·obtain ⟨bn,rfl⟩:=qCp hb.1
   have hbl:bn<X.length:=by omega
   have hrow:=hX.2 _ (qCG hbl)
   have hrec:=fun s=>qAt (F:=F) (yy:=yy) (X:=X) (a:=a) (b:=(bn:Int)) (i:=i) (rec163:=rec163) hF hX hb hm k (j+1) s (by omega) (by omega)
   rw[if_pos (by simp_all),qj,qCn hlt,qCw hlt]
   simp only[qCm]
   rw[qj,qCn hbl]
   simp only[qCm]
   obtain ⟨p,hp⟩:=qks (F:=F) hF (v:=cs[j]) hrow.1 (by omega)
   rw[hp]
   simp only[qCm]
   rw[qn (by omega)]
   have e:rowX X (bn:Int)=X[bn]:=by grind [rowX]
   by_cases hc:(decide (cs[j]∈X[bn]) && decide (a<(bn:Int)))=true
   ·have e3:t3 X a (bn:Int) (cs[j]::cs.drop (j+1))=[a,(bn:Int),cs[j]]::t3 X a (bn:Int) (cs.drop (j+1)):=by
     grind [t3]
    rw[if_pos hc,e3]
    unfold qbj
    cases yy s [a,(bn:Int),cs[j]] with
    | none=>rfl
    | some r =>
     grind
   grind [t3]
  ·rw[if_neg (by simp_all),qCB (by omega)]
   rfl
theorem qx7 {σ τ:Type}{F a:Nat}{yy:σ→qFm→Option (σ ⊕ τ)}{X:List (qFm)}{l:qFm}{rec115:(Int×σ)→Option (σ ⊕ τ)}(hF:200000≤F)(hX:Rws X)(hl:∀ x∈l,0≤x∧x<(X.length:Int))(hm:l.length≤100):∀ (k i:Nat) (s:σ),l.length<k+i→i≤l.length →
  za F yy rec115 X (a:Int) l k ((i:Int),s)=(qbj yy (t2 X (a:Int) (l.drop i)) s).bind (Sum.elim (fun s'=>jx F yy rec115 (a:Int) s') (fun t=>some (.inr t)))
 | 0,_,_,_,_=>by omega
 | k+1,i,s,h,hi=>by
  show jv F yy rec115 X (a:Int) l (za F yy rec115 X (a:Int) l k) (i:Int) s=_
  unfold jv
  by_cases hlt:i<l.length
  ·have hs:=qkP (l:=l) (i:=i+1) (j:=l.length) (by omega) (by omega)
   rw[qDI] at hs
   rw[if_pos (by simp_all),qj,qCn hlt,qCw hlt]
   simp only[qCm]
   rw[qn (by omega),hs]
   simp only[qCm]
   have hin:=qAt (F:=F) (yy:=yy) (X:=X) (a:=(a:Int)) (b:=l[i]) (cs:=l.drop (i+1)) (i:=i) (rec163:=za F yy rec115 X (a:Int) l k) hF hX (hl _ (qCG hlt)) (by grind) F 0 s (by grind) (by omega)
   rw[qCY] at hin
   refine Eq.trans hin ?_
   unfold t2
   rw[qhp]
   cases qbj yy (t3 X (a:Int) l[i] (l.drop (i+1))) s with
   | none=>rfl
   | some r =>
    cases r with
    | inl s' =>
     simp only[qCm,Sum.elim_inl]
     unfold jy
     rw[qn (by omega)]
     exact qx7 hF hX hl hm k (i+1) s' (by omega) (by omega)
    | inr t=>rfl
  ·rw[if_neg (by simp_all),qCB (by omega)]
   rfl
theorem qx8 {σ τ:Type}{F:Nat}{yy:σ→qFm→Option (σ ⊕ τ)}{X:List (qFm)}(hF:200000≤F)(hX:Rws X):∀ (k a:Nat) (s:σ),X.length<k+a→a≤X.length →
  qL F yy X k ((a:Int),s)=qbj yy (t1 X a (X.drop a)) s
 | 0,_,_,_,_=>by omega
 | k+1,a,s,h,ha=>by
  have h1:=hX.1
  show ju F yy X (qL F yy X k) (a:Int) s=_
  unfold ju
  by_cases hlt:a<X.length
  ·have hrow:=hX.2 _ (qCG hlt)
   rw[if_pos (by simp_all),qj,qCn hlt,qCw hlt]
   simp only[qCm]
   have hin:=qx7 (F:=F) (a:=a) (yy:=yy) (X:=X) (l:=X[a]) (rec115:=qL F yy X k) hF hX hrow.2.2 hrow.2.1 F 0 s (by omega) (by omega)
   rw[qCY] at hin
   refine Eq.trans hin ?_
   unfold t1
   rw[qhp]
   cases qbj yy (t2 X (a:Int) X[a]) s with
   | none=>rfl
   | some r =>
    cases r with
    | inl s' =>
     simp only[qCm,Sum.elim_inl]
     unfold jx
     rw[qn (by omega)]
     exact qx8 hF hX k (a+1) s' (by omega) (by omega)
    | inr t=>rfl
  ·rw[if_neg (by simp_all),qCB (by omega)]
   rfl
def cntC (n:Nat)(l:qFm):qFm:=(qCL n).map fun (i:Nat)=>((l.count (i:Int):Nat):Int)
theorem qyA {n i:Nat}(h:i<n):(cntC n l)[i]?=some ((l.count (i:Int):Nat):Int):=by simp[cntC,h]
theorem qvF {n a:Nat}:(cntC n l).set a ((l.count (a:Int)+1:Nat):Int)=cntC n (l++[(a:Int)]):=by
 apply qDe (by simp[cntC])
 intro i h1 h2
 rw[qE5]
 simp only[cntC,qEm,qDY,List.count_append]
 grind
theorem qyB {n a:Nat}(ha:a<n)(hl:l.length≤lim)(hlim:lim≤1000000000):idx (cntC n l) (a:Int)=some ((l.count (a:Int):Nat):Int)∧(cntC n l).set a (iadd .i64 ((l.count (a:Int):Nat):Int) 1)=cntC n (l++[(a:Int)]):=by
 have:=List.count_le_length (a:=(a:Int)) (l:=l)
 exact ⟨by rw[qj,qyA ha],by rw[qn (by omega),qvF]⟩
theorem qx9 {n:Nat}{al:Nat}{a b c:Nat}(hF:10≤F)(ha:a<n)(hb:b<n)(hc:c<n)(hl:l.length≤100000000)(hal:al≤100000000):yb F (al:Int) (cntC n l) [(a:Int),(b:Int),(c:Int)]=some (.inl (((al+1:Nat):Int),cntC n (l++[(a:Int),(b:Int),(c:Int)]))):=by
 obtain ⟨k,rfl⟩:=Nat.exists_eq_add_of_le hF
 unfold yb chk
 rw[if_pos (by simp),if_pos (by simp),qD9]
 have step:∀ (fu x i:Nat) (l:qFm) (m:qFm),x<n→l.length≤200000000→i<3→[(a:Int),(b:Int),(c:Int)][i]?=some (x:Int)→j6 (k+10) (al:Int) [(a:Int),(b:Int),(c:Int)] (fu+1) ((i:Int),cntC n l)=j6 (k+10) (al:Int) [(a:Int),(b:Int),(c:Int)] fu (((i+1:Nat):Int),cntC n (l++[(x:Int)])):=by
  intro fu x i l m hx hl hi hg
  show j5 (k+10) (al:Int) [(a:Int),(b:Int),(c:Int)] (j6 (k+10) (al:Int) [(a:Int),(b:Int),(c:Int)] fu) (i:Int) (cntC n l)=_
  unfold j5
  obtain ⟨e1,e2⟩:=qyB (n:=n) (a:=x) (l:=l) (lim:=200000000) hx hl (by omega)
  rw[if_pos (by simp;omega)]
  simp only[chk]
  rw[if_pos (by simp),qj,hg]
  simp only[qCm]
  rw[e1]
  simp only[qCm,lett,qCs]
  rw[e2,qn (by omega)]
 have h0:=step (k+9) a 0 l [] ha (by omega) (by omega) rfl
 have h1:=step (k+8) b 1 (l++[(a:Int)]) [] hb (by simp;omega) (by omega) rfl
 have h2:=step (k+7) c 2 (l++[(a:Int)]++[(b:Int)]) [] hc (by simp;omega) (by omega) rfl
 refine Eq.trans h0 (Eq.trans h1 (Eq.trans h2 ?_))
 show j5 (k+10) (al:Int) [(a:Int),(b:Int),(c:Int)] (j6 (k+10) (al:Int) [(a:Int),(b:Int),(c:Int)] (k+6)) ((3:Nat):Int) (cntC n (l++[(a:Int)]++[(b:Int)]++[(c:Int)]))=_
 unfold j5
 rw[if_neg (by simp),qn (by omega)]
 simp
def Tri (n:Nat)(x:qFm):Prop:=∃ a b c:Nat,x=[(a:Int),(b:Int),(c:Int)]∧a<n∧b<n∧c<n
theorem qt4 {F n:Nat}{yy:(Int×qFm)→qFm→Option ((Int×qFm) ⊕ Empty)}(hF:10≤F)(hy:∀ s p,yy s p=yb F s.1 s.2 p):∀ (A acc:List (qFm)),(∀ x∈A,Tri n x)→(∀ x∈acc,Tri n x)→acc.length+A.length≤10000000 →
  qbj yy A ((acc.length:Int),cntC n acc.flatten)=some (.inl (((acc++A).length:Int),cntC n (acc++A).flatten))
 | [],acc,_,_,_=>by rw[qC0];rfl
 | p::A,acc,h,hacc,hm=>by
  rw[qCH] at hm
  obtain ⟨a,b,c,rfl,ha,hb,hc⟩:=h p (by simp)
  have hrec:=qt4 hF hy A (acc++[[(a:Int),(b:Int),(c:Int)]]) (fun q hq=>h q (by grind)) (fun q hq=>by
   grind) (by grind)
  have hfl:∀ (L:List (qFm)),(∀ x∈L,Tri n x)→L.flatten.length=3*L.length:=by
   intro L
   induction L with
   | nil=>simp
   | cons x L ih =>
    intro hL
    obtain ⟨a',b',c',rfl,_⟩:=hL x (by simp)
    grind
  have:=hfl acc hacc
  show (yy _ _).bind _=_
  rw[hy,qx9 hF ha hb hc (by omega) (by omega)]
  simp_all
theorem qA4 {X:List (qFm)}{b:Int}{cs:qFm}:x∈t3 X a b cs↔∃ c,c∈cs∧c∈rowX X b∧a<b∧x=[a,b,c]:=by
 unfold t3
 grind
theorem qrU {X:List (qFm)}{a:Int}{x:qFm}:∀ {l:qFm},l.Pairwise (·<·)→(x∈t2 X a l↔∃ b c,b∈l∧c∈l∧b<c∧c∈rowX X b∧a<b∧x=[a,b,c])
 | [],_=>by simp[t2]
 | b::cs,h=>by
  obtain ⟨h1,h2⟩:=List.pairwise_cons.1 h
  unfold t2
  rw[qCr,qA4,qrU h2]
  grind
theorem qww {X:List (qFm)}{x:qFm}:∀ {R:List (qFm)} {i:Nat},x∈t1 X i R↔∃ j l,R[j]?=some l∧x∈t2 X ((i+j:Nat):Int) l
 | [],i=>by simp[t1]
 | l::R,i=>by
  unfold t1
  rw[qCr,qww (R:=R)]
  constructor
  ·rintro (h | ⟨j,l',h1,h2⟩)
   ·exact ⟨0,l,by simp,by omega⟩
   ·exact ⟨j+1,l',by grind,by grind⟩
  grind
theorem qx4 {X:List (qFm)}{a:Int}:∀ (l:qFm),(t2 X a l).length≤l.length*l.length
 | []=>by simp[t2]
 | b::cs=>by
  have:=qx4 (X:=X) (a:=a) cs
  grind [t3,t2,qDm,Nat.mul_add]
theorem qx3 {X:List (qFm)}:∀ (R:List (qFm)) (i:Nat),(∀ l∈R,l.length≤100)→(t1 X i R).length≤10000*R.length
 | [],_,_=>by simp[t1]
 | l::R,i,h=>by
  have h1:=qx3 (X:=X) R (i+1) fun l' hl=>h l' (by grind)
  have h2:=qx4 (X:=X) (a:=(i:Int)) l
  have h3:l.length*l.length≤100*100:=qEv (h l (by simp)) (h l (by simp))
  grind [t1]
theorem qrX {g:List (qFm)}(hg:Gr g):Rws (nr g):=by
 have h1:=hg.1
 refine ⟨by rw[qgK];omega,fun l hl=>?_⟩
 obtain ⟨i,hi⟩:=List.getElem?_of_mem hl
 have hlt:i<g.length:=by grind [qgK]
 rw[qgJ hlt] at hi
 cases hi
 refine ⟨((qfX hg).2 i _ (qgJ hlt)).1,qDf (qvG _ _ _) h1,fun x hx=>?_⟩
 have:=qrA (qhQ hg) _ (((qfX hg).2 i _ (qgJ hlt)).2 x |>.1 hx)
 grind [qgK]
def th (g:List (qFm)):List (qFm):=t1 (nr g) 0 (nr g)
theorem qA5 {g:List (qFm)}(hg:Gr g):x∈th g↔∃ a b c:Nat,x=[(a:Int),(b:Int),(c:Int)]∧a<b∧b<c∧c<g.length∧Nb g a b=true∧Nb g a c=true∧Nb g b c=true:=by
 have hr:=qrX hg
 unfold th
 rw[qww]
 have hrow:∀ (b:Nat) (z:Int),b<g.length→(z∈rowX (nr g) (b:Int)↔((b:Int),z)∈E g):=fun b z hb=>by
  unfold rowX
  rw[qCs,qEj,qgJ hb,Option.getD_some]
  exact ((qfX hg).2 b _ (qgJ hb)).2 z
 constructor
 ·rintro ⟨a,l,h1,h2⟩
  rw[qDg] at h2
  have hal:a<g.length:=by grind [qgK]
  have hl:=hr.2 l (qCq h1)
  have hm:=((qfX hg).2 a _ h1).2
  obtain ⟨b,c,c1,c2,c3,c4,c5,rfl⟩:=(qrU hl.1).1 h2
  have hb:=hl.2.2 b c1
  have hc:=hl.2.2 c c2
  rw[qgK] at hb hc
  obtain ⟨bn,rfl⟩:=qCp hb.1
  obtain ⟨cn,rfl⟩:=qCp hc.1
  refine ⟨a,bn,cn,rfl,by omega,by omega,by omega,decide_eq_true ((hm _).1 c1),decide_eq_true ((hm _).1 c2),decide_eq_true ((hrow bn _ (by omega)).1 c4)⟩
 ·rintro ⟨a,b,c,rfl,h1,h2,h3,n1,n2,n3⟩
  have hal:a<g.length:=by omega
  have hm:=((qfX hg).2 a _ (qgJ hal)).2
  refine ⟨a,_,qgJ hal,?_⟩
  rw[qDg]
  exact (qrU ((qfX hg).2 a _ (qgJ hal)).1).2 ⟨(b:Int),(c:Int),(hm _).2 (of_decide_eq_true n1),(hm _).2 (of_decide_eq_true n2),by omega,(hrow b _ (by omega)).2 (of_decide_eq_true n3),by omega,rfl⟩
theorem qBz {g:List (qFm)}(hg:Gr g):∀ x∈th g,Tri g.length x:=fun x hx=>by
 obtain ⟨a,b,c,rfl,h1,h2,h3,_⟩:=(qA5 hg).1 hx
 exact ⟨a,b,c,rfl,by omega,by omega,h3⟩
theorem qx6 {g:List (qFm)}(hg:Gr g):(th g).length≤1000000:=by
 have h1:=hg.1
 have:=qx3 (X:=nr g) (nr g) 0 fun l hl=>((qrX hg).2 l hl).2.1
 grind [th,qgK]
theorem qvj {g:List (qFm)}(hF:200000≤F)(hg:Gr g):qem F g=some (cntC g.length (th g).flatten,((th g).length:Int),0):=by
 have h1:=hg.1
 unfold qem
 rw[yY (by omega),yi.2 hg]
 simp only[qCm]
 rw[if_neg (by simp),qA7 (by omega)]
 simp only[qCm]
 rw[qtn (by omega) hg]
 simp only[qCm]
 unfold qgl qeW
 simp only[qCm]
 have ho:=qx8 (F:=F) (yy:=fun (x:Int×qFm) x_1=>yb F x.1 x.2 x_1) hF (qrX hg) F 0 (0,qCo g.length 0) (by rw[qgK];omega) (by omega)
 rw[qCY] at ho
 have hf:=qt4 (F:=F) (n:=g.length) (yy:=fun x x_1=>yb F x.1 x.2 x_1) (by omega) (fun _ _=>rfl) (th g) [] (qBz hg) (by simp) (by grind [qx6])
 have e0:cntC g.length ([]:List (qFm)).flatten=qCo g.length 0:=by
  apply qDe (by simp[cntC])
  grind [cntC]
 rw[e0,qCM] at hf
 have hf':qbj (fun (x:Int×qFm) x_1=>yb F x.1 x.2 x_1) (t1 (nr g) 0 (nr g)) (0,qCo g.length 0)=_:=hf
 simp_all
def okB:Bool→qFm→Bool
 | _,[]=>true
 | f,n::bs=>decide (0≤n) && (f || decide (1≤n)) && okB false bs
def bsum:qFm→Int
 | []=>0
 | n::bs=>n+bsum bs
theorem qhW (f:Bool)(n:Int)(bs:qFm):okB f (n::bs)=(decide (0≤n) && (f || decide (1≤n)) && okB false bs):=rfl
theorem qoK:∀ {f:Bool} {bs:qFm},okB f bs=true→(∀ n∈bs,0≤n)∧0≤bsum bs
 | _,[],_=>by simp[bsum]
 | f,n::bs,h=>by
  unfold okB at h
  simp only[qC2,decide_eq_true_eq] at h
  obtain ⟨h1,h2⟩:=qoK h.2
  refine ⟨fun m hm=>?_,?_⟩
  ·grind
  grind [bsum]
def ccE (L:Int)(f:Bool)(t:Int)(bs:qFm):Int:=if okB f bs then (if L<t+bsum bs then 8 else 0) else 3
theorem qyy (L:Int)(f:Bool)(t:Int):ccE L f t []=if L<t then 8 else 0:=by simp[ccE,okB,bsum]
theorem qsR {L:Int}{n:Int}{bs:qFm}(h:n<0∨(n<1∧f=false)):ccE L f t (n::bs)=3:=by
 unfold ccE okB
 grind
theorem qAQ {L:Int}{n:Int}{bs:qFm}(h:¬ (n<0∨(n<1∧f=false))):ccE L f t (n::bs)=ccE L false (t+n) bs:=by
 have e:okB f (n::bs)=okB false bs:=by
  rw[qhW]
  grind
 grind [ccE,bsum]
theorem qyx {L:Int}{t':Int}{bs:qFm}(h:L<t)(h':L<t'):ccE L f t bs=ccE L f t' bs:=by
 unfold ccE
 by_cases ho:okB f bs=true
 ·have:=(qoK ho).2
  grind
 simp_all
theorem qqo {F:Nat}{bs:qFm}{L:Nat}(hL:L≤300)(hb:bs.length≤301):∀ (k i:Nat) (s:Int),bs.length<k+i→i≤bs.length→0≤s∧s≤L+1 →
  qbH F bs (L:Int) k (s,(i:Int))=some (ccE L (decide (i=0)) s (bs.drop i))
 | 0,_,_,_,_,_=>by omega
 | k+1,i,s,h,hi,hs=>by
  show qdu F bs (L:Int) (qbH F bs (L:Int) k) s (i:Int)=_
  unfold qdu
  by_cases hlt:i<bs.length
  ·rw[if_pos (by simp_all),qj,qCn hlt,qCw hlt]
   simp only[qCm]
   have hrec:=fun s hs=>qqo (F:=F) hL hb k (i+1) s (by omega) (by omega) hs
   rw[decide_eq_false (show ¬ i+1=0 by omega)] at hrec
   generalize bs[i]=n at hrec ⊢
   generalize bs.drop (i+1)=R at hrec ⊢
   unfold qbG
   by_cases h1:n<0
   ·rw[if_pos (by grind),if_pos rfl,qsR (.inl h1)]
   ·rw[if_neg (by grind)]
    by_cases h2:n<1∧0<i
    ·grind [qsR]
    ·have h3:¬ (n<0∨(n<1∧decide (i=0)=false)):=by
      simp_all
     rw[if_neg (by simp_all),qAQ h3]
     unfold lett
     have em:imin n (iadd .i64 (L:Int) 1)=if n≤L then n else (L:Int)+1:=by
      grind [zl,imin]
     grind [zl,imin,qyx]
  grind [qyy,qdv]
def bkE (L:Nat)(bs:qFm):Int:=if L+1<bs.length then 2 else ccE L true 0 bs
theorem quI (hF:200000≤F){bs:qFm}{L:Nat}(hL:L≤300):qet F bs (L:Int)=some (bkE L bs):=by
 grind [qet,bkE,qn,qqo]
theorem qAL {L:Nat}{bs:qFm}:bkE L bs=0↔bs.length≤L+1∧okB true bs=true∧bsum bs≤L:=by
 grind [bkE,ccE]
def cp:qFm→qFm→Bool→qFm
 | l,[],c=>if c then l else []
 | l,n::bs,c=>(if c then l.take n.toNat else [])++cp (l.drop n.toNat) bs (!c)
theorem qpU {F:Nat}{bs:qFm}(hbm:bs.length≤1000):∀ (k i:Nat) (l o:qFm) (c:Bool),bs.length<k+i→i≤bs.length→l.length≤300→o.length≤300*i→(∀ n∈bs.drop i,0≤n)→bsum (bs.drop i)≤l.length →
  qaG F bs k (l,o,c,(i:Int))=some (o++cp l (bs.drop i) c)
 | 0,_,_,_,_,_,_,_,_,_,_=>by omega
 | k+1,i,l,o,c,h,hi,hl,ho,hn,hs=>by
  show qcR F bs (qaG F bs k) l o c (i:Int)=_
  unfold qcR
  by_cases hlt:i<bs.length
  ·rw[qCw hlt] at hn hs ⊢
   have hrec:=fun l o c h1 h2 h3=>qpU (F:=F) hbm k (i+1) l o c (by omega) (by omega) h1 h2 (fun n hn'=>hn n (qCD _ hn')) h3
   have hg:idx bs (i:Int)=some bs[i]:=by grind [qj]
   rw[if_pos (by simp_all),hg]
   have h0:=hn bs[i] (qCC ..)
   have hsum:0≤bsum (bs.drop (i+1)):=by
    have:∀ (R:qFm),(∀ n∈R,0≤n)→0≤bsum R:=by
     intro R
     induction R with
     | nil=>intro _;simp[bsum]
     | cons x R ih=>intro h;unfold bsum;have:=h x (by simp);grind
    grind
   unfold bsum at hs
   generalize bs[i]=n at hrec h0 hs ⊢
   obtain ⟨m,rfl⟩:=qCp h0
   have hml:m≤l.length:=by omega
   have s1:=qkP (l:=l) (i:=0) (j:=m) (by omega) hml
   have s2:=qkP (l:=l) (i:=m) (j:=l.length) hml (qCE _)
   rw[qDI] at s2
   rw[show ((0:Nat):Int)=0 from rfl,qCY] at s1
   simp only[qCm]
   unfold qaF cp
   simp only[qCs]
   cases c
   ·grind [qn]
   ·rw[if_pos rfl,if_pos rfl,s1]
    grind [ko,qn]
  ·rw[if_neg (by simp_all),qCB (by omega)]
   unfold qdw qbI cp
   cases c
   ·simp
   ·rw[if_pos rfl,ko (by omega)];simp
def cpE (l bs:qFm):Int:=if gkc l≠0 then gkc l else bkE l.length bs
def cpy (l bs:qFm):qFm×Int:=if cpE l bs≠0 then ([],cpE l bs) else (cp l bs true,0)
theorem qvH {bs:qFm}:cpE l bs=0↔(l.length≤300∧Ris (-1) l)∧bs.length≤l.length+1∧okB true bs=true∧bsum bs≤l.length:=by
 grind [cpE,vE,qAL]
theorem qvJ {bs:qFm}(h:cpE l bs=0):cpy l bs=(cp l bs true,0):=by grind [cpy]
theorem qyE {bs:qFm}(h:cpE l bs≠0):cpy l bs=([],cpE l bs):=by grind [cpy]
theorem qyN (h:gkc l=0):l.length≤300:=(vE.1 h).1
theorem qyC (hF:200000≤F){bs:qFm}:qfj F l bs=some (cpy l bs):=by
 unfold qfj
 rw[qgU (by omega)]
 simp only[qCm]
 have hj:qa7 F l bs (cpE l bs)=some (cpy l bs):=by
  unfold qa7
  by_cases h:cpE l bs=0
  ·obtain ⟨⟨h1,h2⟩,h3,h4,h5⟩:=qvH.1 h
   have:=qpU (F:=F) (bs:=bs) (by omega) F 0 l [] true (by omega) (by omega) h1 (by simp) (by rw[qCY];exact (qoK h4).1) (by simp_all)
   rw[qCY,qCM,show ((0:Nat):Int)=0 from rfl] at this
   grind [qvJ,qfO]
  grind [qyE]
 grind [cpE,quI,qyN]
theorem qtR:∀ {e:Int} {R:List (Int×Int)},Sep e R→∀ r∈R,e<r.1
 | _,[],_=>by simp
 | e,r::R,h=>by
  intro r' hr
  rcases qCu.1 hr with rfl | hr
  ·exact h.1
  ·have:=qtR h.2.2 r' hr;have:=h.1;have:=h.2.1;omega
def Mx (l:qFm)(r:Int×Int):Prop:=1≤r.2∧r.1-1∉l∧r.1+r.2∉l∧∀ z,r.1≤z→z<r.1+r.2→z∈l
theorem qxq:∀ {e:Int} {R:List (Int×Int)},Sep e R→∀ r∈R,Mx (flat R) r
 | _,[],_=>by simp
 | e,r::R,h=>by
  intro r' hr
  have h1:=h.2.1
  have hlt:=qr7 h.2.2
  rcases qCu.1 hr with rfl | hr
  ·refine ⟨h1,fun hm=>?_,fun hm=>?_,fun z h2 h3=>?_⟩
   ·rw[ye] at hm
    rcases qCr.1 hm with hm | hm
    ·have:=qeD.1 hm;omega
    ·have:=hlt _ hm;omega
   ·rw[ye] at hm
    rcases qCr.1 hm with hm | hm
    ·have:=qeD.1 hm;omega
    ·have:=hlt _ hm;omega
   ·rw[ye]
    exact qCr.2 (.inl (qeD.2 (by omega)))
  ·obtain ⟨i1,i2,i3,i4⟩:=qxq h.2.2 r' hr
   have hf:=qtR h.2.2 r' hr
   refine ⟨i1,fun hm=>?_,fun hm=>?_,fun z h2 h3=>?_⟩
   ·rw[ye] at hm
    rcases qCr.1 hm with hm | hm
    ·have:=qeD.1 hm;omega
    ·exact i2 hm
   ·rw[ye] at hm
    rcases qCr.1 hm with hm | hm
    ·have:=qeD.1 hm;omega
    ·exact i3 hm
   ·rw[ye]
    exact qCr.2 (.inr (i4 z h2 h3))
theorem qnG {x b:Int}:qcC F x a b=some (decide (a≤x∧x≤b)):=by
 unfold qcC
 simp
def RunOk (r:Int×Int):Prop:=(0≤r.1∧r.1≤1048576)∧(1≤r.2∧r.2≤300)∧r.1+r.2-1≤1048576
instance runOkDec (r:Int×Int):Decidable (RunOk r):=inferInstanceAs (Decidable (_∧_∧_))
def sk:Int→List (Int×Int)→Int
 | _,[]=>0
 | e,r::R=>if RunOk r then (if r.1<e+2 then 4 else sk (r.1+r.2-1) R) else 3
theorem qxw:∀ {e:Int} {R:List (Int×Int)},sk e R=0↔(∀ r∈R,RunOk r)∧Sep (e+1) R
 | _,[]=>by simp[sk,Sep]
 | e,r::R=>by
  unfold sk Sep
  by_cases h:RunOk r
  ·rw[if_pos h]
   by_cases h2:r.1<e+2
   ·omega
   ·rw[if_neg h2,qxw]
    rw[show r.1+r.2-1+1=r.1+r.2 from by omega]
    have h3:1≤r.2:=h.2.1.1
    grind
  simp_all
theorem qkf:∀ {R:List (Int×Int)},(∀ r∈R,RunOk r)→(flat R).length≤300*R.length
 | [],_=>by simp[flat]
 | r::R,h=>by
  have h1:=qkf (R:=R) fun r hr=>h r (by grind)
  have h2:=h r (by simp)
  grind [RunOk,ye,qfp]
theorem qnw {F:Nat}{rec32:(qFm×Int)→Option (qFm×Int)}{i:Int}{r:Int×Int}{acc:qFm}(hr:RunOk r)(ha:acc.length≤1000000):∀ (k j:Nat),r.2.toNat<k+j→j≤r.2.toNat →
  qdA F rec32 i r k (acc++rng r.1 j,(j:Int))=qbO F rec32 i (acc++rng r.1 r.2.toNat)
 | 0,_,_,_=>by omega
 | k+1,j,h,hj=>by
  unfold RunOk at hr
  show qdy F rec32 i r (qdA F rec32 i r k) (acc++rng r.1 j) (j:Int)=_
  unfold qdy
  by_cases hlt:j<r.2.toNat
  ·rw[if_pos (by simp_all),zl (by omega) (by omega),ko (by simp[qfp];omega),qn (by omega)]
   simp only[qCm]
   rw[qCv,← qlZ]
   exact qnw hr ha k (j+1) (by omega) (by omega)
  grind
theorem quw {i:Nat}(h:i<R.length):flat (R.take (i+1))=flat (R.take i)++rng R[i].1 R[i].2.toNat:=by
 grind [List.take_add_one,flat]
theorem qmf {F:Nat}(hF:1000<F){R:List (Int×Int)}(hR:∀ r∈R,RunOk r)(hl:R.length≤300):∀ (k i:Nat),R.length<k+i→i≤R.length →
  jH F R k (flat (R.take i),(i:Int))=some (flat R,0)
 | 0,_,_,_=>by omega
 | k+1,i,h,hi=>by
  show qdx F R (jH F R k) (flat (R.take i)) (i:Int)=_
  unfold qdx
  by_cases hlt:i<R.length
  ·have hok:=hR _ (qCG hlt)
   have hsz:=qkf (R:=R.take i) fun r hr=>hR r (List.mem_of_mem_take hr)
   rw[List.length_take] at hsz
   have hsp:=qnw (F:=F) (rec32:=jH F R k) (i:=(i:Int)) (acc:=flat (R.take i)) hok (by omega) F 0 (by grind [RunOk]) (by omega)
   rw[rng,qC0,show ((0:Nat):Int)=0 from rfl] at hsp
   rw[if_pos (by simp_all),qj,qCn hlt]
   simp only[qCm]
   rw[hsp,← quw hlt]
   unfold qbO
   rw[qn (by omega)]
   exact qmf hF hR hl k (i+1) (by omega) (by omega)
  ·rw[if_neg (by simp_all)]
   obtain rfl:i=R.length:=by omega
   rw[qDI];rfl
theorem qlJ {b:Int}(h1:-1000000000≤a∧a≤1000000000)(h2:-1000000000≤b∧b≤1000000000):isub .i64 (iadd .i64 a b) 1=a+b-1:=by
 grind [zl,zK]
theorem qme {F:Nat}{R:List (Int×Int)}(hl:R.length≤300):∀ (k i:Nat) (e:Int),R.length<k+i→i≤R.length→-2≤e∧e≤1048576 →
  qbP F R k (e,(i:Int))=if sk e (R.drop i)≠0 then some ([],sk e (R.drop i)) else qbN F R
 | 0,_,_,_,_,_=>by omega
 | k+1,i,e,h,hi,he=>by
  show qdz F R (qbP F R k) e (i:Int)=_
  unfold qdz
  by_cases hlt:i<R.length
  ·rw[if_pos (by simp_all),qj,qCn hlt,qCw hlt,sk]
   generalize R[i]=r
   simp only[qCm]
   rw[qnG,qnG]
   simp only[qCm]
   by_cases h1:0≤r.1∧r.1≤1048576
   ·rw[decide_eq_true h1,if_neg (by simp)]
    by_cases h2:1≤r.2∧r.2≤300
    ·rw[decide_eq_true h2,if_neg (by simp),qlJ (by omega) (by omega)]
     unfold jG
     by_cases h3:r.1+r.2-1≤1048576
     ·have hok:RunOk r:=⟨h1,h2,h3⟩
      rw[if_neg (by simp_all),if_pos hok,zl (by omega) (by omega)]
      by_cases h4:r.1<e+2
      ·simp_all
      ·rw[if_neg (by grind),if_neg h4,qlJ (by omega) (by omega),qn (by omega)]
       exact qme hl k (i+1) _ (by omega) (by omega) (by omega)
     grind [RunOk]
    ·have hok:¬ RunOk r:=fun h=>h2 h.2.1
     rw[decide_eq_false h2,if_pos (by simp),if_neg hok,if_pos (by decide)]
     rfl
   ·have hok:¬ RunOk r:=fun h=>h1 h.1
    rw[decide_eq_false h1,if_pos (by simp),if_neg hok,if_pos (by decide)]
    rfl
  grind [sk]
def skc (R:List (Int×Int)):Int:=if 300<R.length then 2 else sk (-2) R
def spd (R:List (Int×Int)):qFm×Int:=if skc R≠0 then ([],skc R) else (flat R,0)
theorem qr9:skc R=0↔R.length≤300∧(∀ r∈R,RunOk r)∧Sep (-1) R:=by
 grind [skc,qxw]
theorem quY (hF:20000≤F):qev F R=some (spd R):=by
 unfold qev spd
 by_cases h:300<R.length
 ·grind [skc]
 ·have e:skc R=sk (-2) R:=by grind [skc]
  have hc:=qme (F:=F) (R:=R) (by omega) F 0 (-2) (by omega) (by omega) (by omega)
  rw[qCY] at hc
  rw[if_neg (by grind),e]
  refine hc.trans ?_
  by_cases h2:sk (-2) R=0
  ·rw[if_neg (by omega),if_neg (by omega)]
   unfold qbN
   have hok:=qr9.1 (e.trans h2)
   exact qmf (by omega) hok.2.1 hok.1 F 0 (by omega) (by omega)
  simp_all
def rm (R:List (Int×Int))(rest:qFm):qFm×Int:=if skc R≠0 then ([],skc R) else if gkc rest≠0 then ([],gkc rest) else mrg (flat R) rest
theorem qCh (h:skc R≠0):rm R rest=([],skc R):=by grind [rm]
theorem qCi (h:skc R=0)(h2:gkc rest≠0):rm R rest=([],gkc rest):=by grind [rm]
theorem qB6 (h:skc R=0)(h2:gkc rest=0):rm R rest=mrg (flat R) rest:=by grind [rm]
theorem qBq (h:skc R=0):spd R=(flat R,0):=by grind [spd]
theorem qzm (h:skc R≠0):spd R=([],skc R):=by grind [spd]
theorem qwx (hF:20000≤F):qfk F R rest=some (rm R rest):=by
 unfold qfk
 rw[quY hF,qgU hF]
 simp only[qCm]
 by_cases h:skc R=0
 ·rw[qBq h,if_pos (by simp)]
  unfold qa8
  grind [qB6,qr9,vE,qkf,quC,qxr,qcw,qCi]
 grind [qzm,qCh,qa8]
theorem quO (h1:skc R=0)(h2:gkc rest=0)(h3:cmn (flat R) rest=false)(h4:(flat R++rest).Perm w)(h5:w.Pairwise (·≤·))(h6:w.length≤300):rm R rest=(w,0):=by
 have hl:=h4.length_eq
 grind [qB6,mrg,qoW]
theorem qy0 {r:qFm}:(mrg l r).1.length≤300:=by
 grind [mrg,qii]
theorem qBj:(rm R rest).1.length≤300:=by
 grind [rm,qy0]
theorem quJ {A B:List (Int×Int)}(h:A.Perm B):(flat A).Perm (flat B):=h.flatMap_right _
theorem qi2 (least:Int):∀ (R:List (Int×Int)),(spO least R++spS least R).Perm R
 | []=>qCU _
 | r::R=>by
  by_cases h:least≤r.2
  ·rw[qAq h,qAr h];exact (qi2 least R).cons r
  ·rw[qAp h,qAs h];exact qDi.trans ((qi2 least R).cons r)
theorem qqL (least:Int)(l:qFm):(flat (spO least (rs l))++flat (spS least (rs l))).Perm l:=by
 grind [qp5,quJ,qi2,qfq]
theorem qzn {q:Int}{least:Int}(hl:l.length≤300)(h:Ris q l):(spO least (rs l)).length≤300∧(flat (spS least (rs l))).length≤300:=by
 have h1:=qkd (ql3 (qcw h).1 (qcw h).2)
 rw[qfq] at h1
 have h2:=(qqL least l).length_eq
 grind [spO]
theorem qxl (hl:l.length≤300)(h:Ris (-1) l):Sep (-1) (rs l)∧∀ r∈rs l,RunOk r:=by
 have hs:=ql3 (qcw h).1 (qcw h).2
 refine ⟨hs,fun r hr=>?_⟩
 have hm:=qxq hs r hr
 have h2:=qke hr
 rw[qfq] at hm h2
 have h1:=hm.1
 have a1:=qkq h _ (hm.2.2.2 r.1 (by omega) (by omega))
 have a2:=qkq h _ (hm.2.2.2 (r.1+r.2-1) (by omega) (by omega))
 unfold Nd at a1 a2
 exact ⟨by omega,by omega,by omega⟩
theorem qzs (hl:l.length≤300)(h:Ris (-1) l)(p:Int×Int→Bool):skc ((rs l).filter p)=0:=by
 grind [qxl,qkd,qfq,qr9,qhq]
theorem qoY (h:Ris (-1) l)(p:Int×Int→Bool):Ris (-1) (flat ((rs l).filter p)):=by
 grind [qcw,flat,qfq,qoQ,qkq]
theorem qvI (f:Int→Bool):∀ (l pre:qFm) (c:Bool),cp (pre++l) (tb c pre.length (l.map f)) c=(if c then pre else [])++l.filter f
 | [],pre,c=>by
  show cp (pre++[]) [] c=_
  unfold cp
  simp
 | x::l,pre,c=>by
  rw[qC5,qEl]
  by_cases h:f x=c
  ·have ih:=qvI f l (pre++[x]) c
   grind [qjV]
  ·have ih:=qvI f l [x] (f x)
   rw[qjW h]
   unfold cp
   have hc:(!c)=f x:=by grind
   rw[hc,show ((1:Int))=(([x]:qFm).length:Int) from rfl,qCs,List.take_left,List.drop_left]
   grind
theorem qAR (l m:qFm):cp l (tbs l m) true=l.filter (hasB m):=by
 have:=qvI (hasB m) l [] true
 simpa[tbs] using this
theorem qlQ:∀ (bs:List Bool) (f c:Bool) (m:Int),0≤m→(f=true∨1≤m)→okB f (tb c m bs)=true
 | [],_,_,_,_,_=>rfl
 | b::bs,f,c,m,h,hf=>by
  by_cases hb:b=c
  ·subst hb
   rw[qjV]
   exact qlQ bs f b (m+1) (by omega) (.inr (by omega))
  ·rw[qjW hb,qhW,qlQ bs false b 1 (by omega) (.inr (by omega))]
   simp_all
theorem qjq:∀ (bs:List Bool) (c:Bool) (m:Int),0≤m→bsum (tb c m bs)≤m+bs.length
 | [],_,_,h=>by show (0:Int)≤_;omega
 | b::bs,c,m,h=>by
  by_cases hb:b=c
  ·subst hb
   rw[qjV]
   have:=qjq bs b (m+1) (by omega)
   grind
  ·rw[qjW hb]
   have:=qjq bs b 1 (by omega)
   grind [bsum]
theorem qpc (l m:qFm):(tbs l m).length≤l.length:=by
 have:=qsu true 0 (l.map (hasB m))
 rwa [qCX] at this
theorem qyD {m:qFm}(h:gkc l=0):cpE l (tbs l m)=0:=by
 refine qvH.2 ⟨vE.1 h,?_,qlQ _ _ _ _ (by omega) (.inl rfl),?_⟩
 ·grind [qpc]
 ·have:=qjq (l.map (hasB m)) true 0 (by omega)
  grind [tbs]
theorem qyF {m:qFm}(h:gkc l=0):cpy l (tbs l m)=(l.filter (hasB m),0):=by
 rw[qvJ (qyD h),qAR]
theorem qzr {m:qFm}(h:gkc l=0)(hs:m.Sublist l):gkc m=0:=by
 grind [vE,qoQ,qcw,qkq]
theorem qlC (h:gkc l=0):l.Pairwise (·<·):=(qcw (vE.1 h).2).1
theorem qqb {x:Int}:hasB l x=true↔x∈l:=by unfold hasB;simp
theorem qwO {a:qFm}(ha:gkc a=0)(hb:gkc b=0):a.filter (hasB b)=b.filter (hasB a):=by
 refine qw2 ((qlC ha).sublist (qEo ..)) ((qlC hb).sublist (qEo ..)) fun z=>?_
 rw[qDy,qDy,qqb,qqb]
 grind
theorem quv (p:Int→Bool)(l:qFm):(l.filter p++l.filter fun x=>!p x).Perm l:=by
 induction l with
 | nil=>exact qCU _
 | cons x l ih =>
  rw[qEl,qEl]
  cases p x
  ·simp only[qCF,if_false,qEP,if_true]
   exact qDi.trans (ih.cons x)
  ·simp only[if_true,qDl,qCF,if_false]
   exact ih.cons x
structure Rep (l:qFm) (f:Bool) (S:qFm):Prop where
 bit:Bit l
 len:l.length≤8192
 ok:f=false→l=S
 full:f=true→8192<S.length
def Wr (m:Option (Int×qFm×Bool))(S:qFm):Prop:=∃ l f,m=some ((l.length:Int),pk l,f)∧Rep l f S
theorem qzd:Rep [] false []:=⟨by intro x hx;grind,by simp,fun _=>rfl,by simp⟩
theorem qxb (h:Rep l f S){k:qFm}(hk:8192<(S++k).length):Rep l true (S++k):=⟨h.bit,h.len,by simp,fun _=>hk⟩
theorem qpl (hF:20000≤F){k:qFm}(h:Rep l f S)(hk:Bit k)(hkm:k.length≤8192):Wr (vr F (l.length:Int) (pk l) f (k.length:Int) (pk k)) (S++k):=by
 have hl:=h.len
 unfold vr
 cases f with
 | true =>
  have:=h.full rfl
  refine ⟨l,true,by rfl,h.bit,h.len,by simp,fun _=>by grind⟩
 | false =>
  obtain rfl:=h.ok rfl
  rw[if_neg (by simp),qcv (by omega)]
  unfold jL
  by_cases hb:8192<l.length+k.length
  ·rw[if_neg (by grind)]
   refine ⟨l,true,by grind,h.bit,h.len,by simp,fun _=>by simp_all⟩
  ·rw[if_pos (by grind),qsM hF h.bit hk h.len hkm]
   refine ⟨l++k,false,by grind,vt h.bit hk,by simp_all,fun _=>rfl,by simp⟩
theorem qeh (hF:20000≤F)(h:Rep l f S){n:Int}(h0:0≤n)(hn:n≤1099511627776):Wr (zk F (l.length:Int) (pk l) f n) (S++ga n.toNat):=by
 obtain ⟨m,rfl⟩:=qCp h0
 unfold zk
 rw[vG (by omega),qkJ hF (by omega)]
 simp only[qCm,qCs]
 obtain ⟨l',f',e,h'⟩:=qpl hF h (qi0 m) (by grind [qAa])
 rw[e]
 exact ⟨l',f',rfl,h'⟩
theorem qmo {m:Option (Int×qFm×Bool)}{T:qFm}(h:Wr m S)(e:S=T):Wr m T:=e▸h
def encBs:Bool→qFm→qFm
 | _,[]=>[]
 | b,n::bs=>ga (n-if b then 1 else 0).toNat++encBs true bs
def encB (bs:qFm):qFm:=ga bs.length++encBs false bs
theorem qwj (i:Nat):imin (i:Int) 1=if 0<i then 1 else 0:=by
 grind [imin]
theorem qnE {F:Nat}(hF:20000≤F){bs:qFm}(hm:bs.length≤1000):∀ (k i:Nat) (l:qFm) (f:Bool) (S:qFm),bs.length<k+i→i≤bs.length→Rep l f S→okB (!decide (0<i)) (bs.drop i)=true→(∀ n∈bs,n≤1000000) →
  Wr (qak F bs k ((i:Int),(l.length:Int),pk l,f)) (S++encBs (decide (0<i)) (bs.drop i))
 | 0,_,_,_,_,_,_,_,_,_=>by omega
 | k+1,i,l,f,S,h,hi,hr,hok,hb=>by
  show Wr (qaj F bs (qak F bs k) (i:Int) (l.length:Int) (pk l) f) _
  unfold qaj
  by_cases hlt:i<bs.length
  ·rw[qCw hlt,qhW] at hok
   simp only[qC2,qDN,decide_eq_true_eq,qDR,decide_eq_false_iff_not] at hok
   have hn:=hb bs[i] (qCG hlt)
   rw[if_pos (by simp_all),qj,qCn hlt,qCw hlt,qwj]
   simp only[qCm]
   have e1:isub .i64 bs[i] (if 0<i then 1 else 0)=bs[i]-(if decide (0<i)=true then 1 else 0):=by
    grind [zK]
   rw[e1]
   obtain ⟨l',f',e,h'⟩:=qeh hF hr (n:=bs[i]-(if decide (0<i)=true then 1 else 0)) (by grind) (by omega)
   rw[e]
   simp only[qCm]
   rw[qn (by omega)]
   refine qmo (qnE hF hm k (i+1) l' f' _ (by omega) (by omega) h' (by simp_all) hb) ?_
   grind [encBs]
  ·rw[if_neg (by simp_all),qCB (by omega)]
   exact ⟨l,f,rfl,by simpa[encBs] using hr⟩
theorem qsy (hF:20000≤F){bs:qFm}(hm:bs.length≤1000)(hr:Rep l f S)(hok:okB true bs=true)(hb:∀ n∈bs,n≤1000000):Wr (jM F (l.length:Int) (pk l) f bs) (S++encB bs):=by
 unfold jM
 obtain ⟨l',f',e,h'⟩:=qeh hF hr (n:=(bs.length:Int)) (by omega) (by omega)
 rw[e]
 simp only[qCm]
 refine qmo (qnE hF hm F 0 l' f' _ (by omega) (by omega) h' (by simp_all) hb) ?_
 simp[encB]
def encRs (least:Int):Bool→Int→List (Int×Int)→qFm
 | _,_,[]=>[]
 | b,a,r::R=>ga (if b then r.1-a-2 else foldOf (r.1-a)).toNat++(ga (r.2-least).toNat++encRs least true (r.1+r.2-1) R)
def encR (least node:Int)(R:List (Int×Int)):qFm:=ga R.length++encRs least false node R
theorem qlB {x:Int}(h:-2000000≤x∧x≤2000000):0≤foldOf x∧foldOf x≤4000001:=by grind [foldOf]
theorem qt9 {F:Nat}(hF:20000≤F){R:List (Int×Int)}{least:Int}(hm:R.length≤300)(hR:∀ r∈R,RunOk r∧least≤r.2)(hle:0≤least):∀ (k i:Nat) (a:Int) (l:qFm) (f:Bool) (S:qFm),R.length<k+i→i≤R.length→Rep l f S→Nd a→(∃ q,Sep q (R.drop i)∧(0<i→a+1≤q)) →
  Wr (yS F least R k (a,(i:Int),(l.length:Int),pk l,f)) (S++encRs least (decide (0<i)) a (R.drop i))
 | 0,_,_,_,_,_,_,_,_,_,_=>by omega
 | k+1,i,a,l,f,S,h,hi,hr,ha,hs=>by
  show Wr (qbv F least R (yS F least R k) a (i:Int) (l.length:Int) (pk l) f) _
  unfold qbv
  by_cases hlt:i<R.length
  ·obtain ⟨hro,hrl⟩:=hR R[i] (qCG hlt)
   unfold RunOk at hro
   unfold Nd at ha
   rw[if_pos (by simp_all),qj,qCn hlt,qCw hlt]
   simp only[qCm]
   have hj:∀ {l':qFm} {f':Bool} {S':qFm},Rep l' f' S'→S'=S++ga (if decide (0<i)=true then R[i].1-a-2 else foldOf (R[i].1-a)).toNat→Sep (R[i].1+R[i].2) (R.drop (i+1)) →
     Wr (yR F (yS F least R k) least (i:Int) R[i] (l'.length:Int) (pk l') f') (S++encRs least (decide (0<i)) a (R[i]::R.drop (i+1))):=by
    intro l' f' S' hr' hS hsep
    unfold yR
    rw[zK (by omega) (by omega)]
    obtain ⟨l2,f2,e,h2⟩:=qeh hF hr' (n:=R[i].2-least) (by omega) (by omega)
    rw[e]
    simp only[qCm]
    rw[qlJ (by omega) (by omega),qn (by omega)]
    refine qmo (qt9 hF hm hR hle k (i+1) (R[i].1+R[i].2-1) l2 f2 _ (by omega) (by omega) h2 (by unfold Nd;omega) ⟨_,hsep,fun _=>by omega⟩) ?_
    grind [encRs]
   obtain ⟨q,hsp,hq⟩:=hs
   rw[qCw hlt] at hsp
   obtain ⟨h1,h2,h3⟩:=hsp
   by_cases h0:0<i
   ·have hq':=hq h0
    have e3:isub .i64 R[i].1 a=R[i].1-a:=zK (by omega) (by omega)
    rw[if_neg (by grind),e3,zK (by omega) (by omega)]
    obtain ⟨l',f',e,h'⟩:=qeh hF hr (n:=R[i].1-a-2) (by omega) (by omega)
    grind
   ·obtain rfl:i=0:=by omega
    have hf:=qlB (x:=R[0].1-a) (by omega)
    rw[if_pos (by simp),zK (by omega) (by omega),qs5 F (by omega) (by omega)]
    simp only[qCm]
    rw[show iconv .i64 (foldOf (R[0].1-a))=foldOf (R[0].1-a) from yA (by omega) (by omega)]
    obtain ⟨l',f',e,h'⟩:=qeh hF hr (n:=foldOf (R[0].1-a)) (by omega) (by omega)
    grind
  ·rw[if_neg (by simp_all),qCB (by omega)]
   exact ⟨l,f,rfl,by simpa[encRs] using hr⟩
theorem qyf (hF:20000≤F){least q:Int}(hm:R.length≤300)(hR:∀ r∈R,RunOk r∧least≤r.2)(hle:0≤least)(hr:Rep l f S)(hn:Nd node)(hs:Sep q R) :
  Wr (qaO F (l.length:Int) (pk l) f node least R) (S++encR least node R):=by
 unfold qaO
 obtain ⟨l',f',e,h'⟩:=qeh hF hr (n:=(R.length:Int)) (by omega) (by omega)
 rw[e]
 simp only[qCm]
 refine qmo (qt9 hF hm hR hle F 0 node l' f' _ (by omega) (by omega) h' hn ⟨q,by grind,by omega⟩) ?_
 simp[encR]
theorem qoB:∀ {bs:qFm} {f:Bool},okB f bs=true→∀ n∈bs,n≤bsum bs
 | [],_,_,n,h=>by grind
 | x::bs,f,h,n,hn=>by
  rw[qhW] at h
  simp only[qC2] at h
  have h0:=qoK h.2
  have hx:0≤x:=by simp_all
  have hb:bsum (x::bs)=x+bsum bs:=rfl
  rcases qCu.1 hn with rfl | hn
  ·omega
  ·have:=qoB h.2 n hn;omega
def encO (rest:qFm)(least:Int):List (Int×Int):=if 0<least then spO least (rs rest) else []
def encS (rest:qFm)(least:Int):qFm:=if 0<least then flat (spS least (rs rest)) else rest
def encL (node:Int)(rest:qFm)(least:Int)(k:Nat):qFm :=
 if rest=[] then [] else (if 0<least then encR least node (encO rest least) else [])++zes k (gp false node (encS rest least))
def rstO (l fr:qFm)(back:Int):qFm:=if 0<back then rst fr l else l
def enc (node:Int)(l fr:qFm)(back least:Int)(k:Nat):qFm :=
 ga l.length++if l=[] then [] else (if 0<back then encB (tbs fr l) else [])++encL node (rstO l fr back) least k
theorem qy9 (hF:200000≤F){a:qFm}(ha:gkc a=0)(hl:gkc l=0):qga F a l=some (tbs a l,rst a l):=by
 obtain ⟨h1,h2⟩:=vE.1 ha
 obtain ⟨h3,h4⟩:=vE.1 hl
 have:=qr1 hF (qcw h2).1 (qcw h4).1 h1 h3 F 0 [] true 0 (by omega) (by omega) (by simp) (by omega)
 rw[qCY,qCM] at this
 unfold qga
 rw[show ((0:Nat):Int)=0 from rfl] at this
 rw[this]
 rfl
theorem qq4 {k:Nat}(hF:20000≤F)(h1:1≤k)(h2:k≤16){q:Int}(hr:Rep l f S)(hn:Nd node)(hm:rest.length≤300)(hs:Ris q rest) :
  Wr (yQ F node (k:Int) rest (l.length:Int) (pk l) f) (S++zes k (gp false node rest)):=by
 unfold yQ
 have h40:L40 (gp false node rest):=fun x hx=>by have:=qwg hn hs (by simp) x hx;omega
 have hp:=qyQ (F:=F) (l:=[]) hF h1 h2 h40 (by rw[qrG];omega) (by intro x hx;grind) (by simp)
 simp only[qCM,qDP] at hp
 rw[qyR hF hm hn hs]
 simp only[qCm]
 rw[show qfJ F 0 ([]:qFm) (gp false node rest) (k:Int)=_ from hp]
 simp only[qCm]
 unfold qbu
 by_cases hb:(zes k (gp false node rest)).length≤8192
 ·rw[if_pos hb]
  simp only[qDl,Bool.or_false]
  obtain ⟨l',f',e,h'⟩:=qpl hF hr (qua k _) hb
  rw[e]
  exact ⟨l',f',rfl,h'⟩
 ·rw[if_neg hb]
  simp only[qEP,Bool.or_true]
  have hr':=qxb hr (k:=zes k (gp false node rest)) (by grind)
  obtain ⟨l',f',e,h'⟩:=qpl hF hr' (k:=[]) (by intro x hx;grind) (by simp)
  have e':vr F (l.length:Int) (pk l) true 0 []=some ((l'.length:Int),pk l',f'):=e
  rw[e']
  exact ⟨l',f',rfl,by grind⟩
theorem qnH {k:Nat}(hF:2000000≤F)(h1:1≤k)(h2:k≤16){least:Int}(hr:Rep l f S)(hn:Nd node)(hg:gkc rest=0)(_hle:least=0∨2≤least∧least≤300) :
  Wr (yP F node least (k:Int) rest (l.length:Int) (pk l) f) (S++encL node rest least k):=by
 obtain ⟨hm,hs⟩:=vE.1 hg
 unfold yP encL encO encS
 by_cases h0:rest=[]
 ·subst h0
  exact ⟨l,f,rfl,by grind⟩
 ·have hlen:rest.length≠0:=by grind
  rw[if_neg (by simp_all),if_neg h0]
  by_cases hl:0<least
  ·rw[if_pos (by grind),if_pos hl,if_pos hl,if_pos hl,qr2 hF hm hs]
   simp only[qCm]
   obtain ⟨s1,s2⟩:=qzn (least:=least) hm hs
   obtain ⟨r1,r2⟩:=qxl hm hs
   obtain ⟨l',f',e,h'⟩:=qyf (F:=F) (R:=spO least (rs rest)) (least:=least) (node:=node) (q:=-1) (by omega) s1 (fun r hr=>⟨r2 r (qDy.1 hr).1,by simpa using (qDy.1 hr).2⟩) (by omega) hr hn (qhq _ r1)
   rw[e]
   simp only[qCm]
   refine qmo (qq4 (by omega) h1 h2 h' hn s2 (qoY hs _)) ?_
   simp
  grind [qq4]
theorem qtQ {a:qFm}(h:gkc l=0):gkc (rst a l)=0:=qzr h qEo
theorem qq7 {k:Nat}(hF:2000000≤F)(h1:1≤k)(h2:k≤16){fr:qFm}{least:Int}(hn:Nd node)(hg:gkc x=0)(hfr:0<back→gkc fr=0)(hle:least=0∨2≤least∧least≤300) :
  Wr (vW F 0 [] false node x fr back least (k:Int)) (enc node x fr back least k):=by
 obtain ⟨hm,hs⟩:=vE.1 hg
 unfold vW enc rstO
 obtain ⟨l,f,e,hr⟩:=qeh (F:=F) (by omega) qzd (n:=(x.length:Int)) (by omega) (by omega)
 rw[show zk F 0 ([]:qFm) false (x.length:Int)=_ from e]
 simp only[qCm,qCM,qCs] at hr ⊢
 by_cases h0:x=[]
 ·subst h0
  rw[if_pos (by simp),if_pos rfl]
  exact ⟨l,f,rfl,by grind⟩
 ·rw[if_neg (by simpa using h0),if_neg h0]
  by_cases hb:0<back
  ·have hfg:=hfr hb
   have hfl:=(vE.1 hfg).1
   rw[if_pos (by grind),if_pos hb,if_pos hb,qy9 (by omega) hfg hg]
   simp only[qCm]
   have htl:=qpc fr x
   have hok:okB true (tbs fr x)=true:=qlQ _ _ _ _ (by omega) (Or.inl rfl)
   have hsum:bsum (tbs fr x)≤0+(fr.map (hasB x)).length:=qjq _ _ _ (by omega)
   rw[qCX] at hsum
   have hbd:∀ n∈tbs fr x,n≤1000000:=fun n hnm=>by
    have:=qoB hok n hnm
    omega
   obtain ⟨l',f',e',h'⟩:=qsy (F:=F) (bs:=tbs fr x) (by omega) (by omega) hr hok hbd
   grind [qnH,qtQ]
  grind [qnH]
def rgam (l:qFm)(p:Nat)(most:Int):Option (Int×Nat):=if (fg l p).2.2=0∧(fg l p).1≤most then some ((fg l p).1,(fg l p).2.1.toNat) else none
def Rd {α:Type}(l:qFm)(m:Option ((α×Int×Int) ⊕ (Int×Int)))(o:Option (α×Nat)):Prop :=
 match o with
 | none=>∃ z,m=some (.inr z)
 | some x=>m=some (.inl (x.1,(l.length:Int),(x.2:Int)))
theorem qaQ {x:Int×Nat}(h:rgam l p most=some x):0≤x.1∧x.1≤most∧x.1≤1099511627776∧x.2≤l.length:=by
 grind [rgam,qv2]
theorem qA8:yE F true=some (.inl ()):=rfl
theorem qwy:yE F false=some (.inr ()):=rfl
theorem qie (hF:20000≤F)(hl:Bit l)(hm:l.length≤8192)(hp:p≤l.length)(h0:0≤most)(h1:most≤1000000000):Rd l (zP F (l.length:Int) (pk l) (p:Int) most) (rgam l p most):=by
 obtain ⟨mo,rfl⟩:=qCp h0
 unfold zP rgam
 rw[qjy hF hl hm hp]
 simp only[qCm]
 rw[vG (by omega)]
 rcases qv2 (l:=l) (a:=p) with h2 | ⟨n,q,h2,h3,h4⟩
 ·rw[if_neg (fun h=>h2 h.1),show ((fg l p).2.2 == 0 && decide ((fg l p).1≤(mo:Int)))=false from by grind,qwy]
  exact ⟨_,rfl⟩
 ·rw[h2]
  simp only[true_and,beq_self_eq_true,Bool.true_and]
  by_cases hc:(n:Int)≤mo
  ·rw[if_pos hc,decide_eq_true hc,qA8]
   show _=_
   grind [lbnd,qeO]
  ·rw[if_neg hc,decide_eq_false hc,qwy]
   exact ⟨_,rfl⟩
theorem qgd {β:Type}{m:Option ((α×Int×Int) ⊕ (Int×Int))}{o:Option (α×Nat)}{k:α×Int×Int→Option ((β×Int×Int) ⊕ (Int×Int))}{kl:Int×Int→Option ((β×Int×Int) ⊕ (Int×Int))}{g:α×Nat→Option (β×Nat)}(h:Rd l m o)(hk:∀ x,o=some x→Rd l (k (x.1,(l.length:Int),(x.2:Int))) (g x))(hkl:∀ z,∃ z',kl z=some (.inr z')):Rd l (lbnd m k kl) (o.bind g):=by
 cases o with
 | none =>
  obtain ⟨z,h⟩:=h
  rw[h]
  exact hkl z
 | some x =>
  have h':m=some (.inl (x.1,(l.length:Int),(x.2:Int))):=h
  rw[h']
  exact hk x rfl
def rbl (l:qFm)(many:Int):Nat→Bool→Nat→Option (qFm×Nat)
 | 0,_,p=>some ([],p)
 | k+1,b,p=>(rgam l p many).bind fun g=>(rbl l many k true g.2).bind fun r=>some ((g.1+if b then 1 else 0)::r.1,r.2)
def rblk (l:qFm)(p:Nat)(many:Int):Option (qFm×Nat):=(rgam l p (many+1)).bind fun g=>rbl l many g.1.toNat false g.2
theorem qtB {l:qFm}{many:Int}:∀ {k:Nat} {b:Bool} {p:Nat} {r:qFm×Nat},p≤l.length→rbl l many k b p=some r→r.1.length=k∧r.2≤l.length
 | 0,_,p,r,hp,h=>by simp only[rbl,qCy] at h;grind
 | k+1,b,p,r,hp,h=>by
  simp only[rbl,qC6,qCy] at h
  obtain ⟨g,h1,r',h2,rfl⟩:=h
  have h3:=qtB (qaQ h1).2.2.2 h2
  simp_all
theorem qtl {n:Nat}{y:α}(h:n≤lim):mk lim y (n:Int)=some (qCo n y):=by
 grind [mk]
theorem qxt {o r:List α}{x y:α}:(o++x::r).set o.length y=o++y::r:=by
 simp
theorem qow {o r:List α}{x:α}:idx (o++x::r) (o.length:Int)=some x:=by
 rw[qj];simp
theorem qnp {F:Nat}(hF:20000≤F){l:qFm}(hl:Bit l)(hm:l.length≤8192){many:Int}(h0:0≤many)(h1:many≤1000000){w:qFm}(hw:w.length≤1000000):∀ (k:Nat) (o:qFm) (p:Nat),w.length<k+o.length→o.length≤w.length→p≤l.length →
  Rd l (qai F (pk l) many w k (o++qCo (w.length-o.length) 0,(o.length:Int),(l.length:Int),(p:Int)))
   ((rbl l many (w.length-o.length) (decide (0<o.length)) p).map fun r=>(o++r.1,r.2))
 | 0,_,_,_,_,_=>by omega
 | k+1,o,p,h,ho,hp=>by
  show Rd l (qah F (pk l) many w (qai F (pk l) many w k) (o++qCo (w.length-o.length) 0) (o.length:Int) (l.length:Int) (p:Int)) _
  unfold qah
  by_cases hlt:o.length<w.length
  ·rw[if_pos (by simp_all)]
   obtain ⟨d,hd⟩:∃ d,w.length-o.length=d+1:=⟨w.length-o.length-1,by omega⟩
   rw[hd]
   unfold rbl
   rw[qDp,qE9]
   refine qgd (qie hF hl hm hp h0 (by omega)) (fun g hg=>?_) (fun z=>⟨_,rfl⟩)
   have hok:=qaQ hg
   rw[qow,qCs,qxt]
   simp only[qCm,lett,Function.comp]
   rw[qwj,zl (by omega) (by omega),qn (by omega)]
   have e:w.length-(o++[g.1+if 0<o.length then 1 else 0]).length=d:=by grind
   have:=qnp hF hl hm h0 h1 hw k (o++[g.1+if 0<o.length then 1 else 0]) g.2 (by omega) (by grind) hok.2.2.2
   rw[e] at this
   simp only[qCv,qEh,qCt,qD1] at this
   rw[show decide (0<o.length+1)=true from by simp] at this
   have h9:((rbl l many d true g.2).bind fun r=>some ((g.1+if decide (0<o.length)=true then 1 else 0)::r.1,r.2)).map (fun r=>(o++r.1,r.2))=(rbl l many d true g.2).map fun r=>(o++(g.1+if 0<o.length then 1 else 0)::r.1,r.2):=by
    cases rbl l many d true g.2 <;> simp
   simp_all
  ·rw[if_neg (by simp_all),show w.length-o.length=0 from by omega]
   rfl
theorem qqz (hF:20000≤F)(hl:Bit l)(hm:l.length≤8192)(h0:0≤many)(h1:many≤1000)(hp:p≤l.length):Rd l (jK F (l.length:Int) (pk l) (p:Int) many) (rblk l p many):=by
 unfold jK rblk
 rw[zl (by omega) (by omega)]
 refine qgd (qie hF hl hm hp (by omega) (by omega)) (fun g hg=>?_) (fun z=>⟨_,rfl⟩)
 have hok:=qaQ hg
 obtain ⟨n,hn⟩:=qCp hok.1
 rw[hn,qtl (by omega)]
 simp only[qCm,qCs]
 have:=qnp hF hl hm h0 (by omega) (w:=qCo n 0) (by grind) F [] g.2 (by grind) (by simp) hok.2.2.2
 simp_all
theorem qiz {xs:List (qFm)}{i:Nat}(h:xs[i]?=some x):(xs.drop i).flatten=x++(xs.drop (i+1)).flatten:=by
 grind [qCw]
theorem qm2 {F:Nat}{xs:List (qFm)}(hm:xs.length≤1000):∀ (k i:Nat) (o:qFm),xs.length<k+i→i≤xs.length→o.length+(xs.drop i).flatten.length≤1000000 →
  zS F xs k (o,(i:Int))=some (o++(xs.drop i).flatten)
 | 0,_,_,_,_,_=>by omega
 | k+1,i,o,h,hi,ho=>by
  show qS F xs (zS F xs k) o (i:Int)=_
  unfold qS
  by_cases hlt:i<xs.length
  ·have hg:=qCn hlt
   have hf:=qiz hg
   rw[hf,qCt] at ho
   rw[if_pos (by simp_all),qj,hg,hf]
   simp only[qCm]
   rw[ko (by omega),qn (by omega)]
   simp only[qCm]
   rw[qm2 hm k (i+1) _ (by omega) (by omega) (by grind),qCv]
  grind [vQ]
theorem qm3 {F:Nat}(hF:20000≤F){xs:List (qFm)}(hm:xs.length≤1000)(ht:xs.flatten.length≤1000000):∀ (k i n:Nat),xs.length<k+i→i≤xs.length→n+(xs.drop i).flatten.length=xs.flatten.length →
  zT F xs k ((n:Int),(i:Int))=some xs.flatten
 | 0,_,_,_,_,_=>by omega
 | k+1,i,n,h,hi,hn=>by
  show qT F xs (zT F xs k) (n:Int) (i:Int)=_
  unfold qT
  by_cases hlt:i<xs.length
  ·have hg:=qCn hlt
   have hf:=qiz hg
   rw[hf,qCt] at hn
   rw[if_pos (by simp_all),qj,hg]
   simp only[qCm]
   rw[qcv (by omega),if_neg (by grind),qn (by omega)]
   exact qm3 hF hm ht k (i+1) _ (by omega) (by omega) (by omega)
  ·rw[if_neg (by simp_all)]
   rw[qCB (by omega)] at hn
   simp only[List.flatten_nil,qDP] at hn
   unfold kM
   rw[qtc (by omega)]
   simp only[qCm]
   have:=qm2 (F:=F) hm F 0 [] (by omega) (by omega) (by grind)
   simp_all
theorem qrw (hF:20000≤F){a c:qFm}(h:a.length+(b.length+c.length)≤1000000):zR F [a,b,c]=some (a++(b++c)):=by
 have:=qm3 (F:=F) hF (xs:=[a,b,c]) (by simp) (by grind) F 0 0 (by grind) (by simp) (by simp)
 simp only[List.flatten_cons,List.flatten_nil,qC0] at this
 exact this
theorem qzk {a:qFm}(h:a.length≤1000000):zg F a=some (srt a):=by
 grind [zg]
def rrn (l:qFm)(least many:Int):Nat→Bool→Int→Nat→Option (List (Int×Int)×Nat)
 | 0,_,_,p=>some ([],p)
 | k+1,b,a,p=>(rgam l p 2097152).bind fun g=>(rgam l g.2 many).bind fun x =>
   (rrn l least many k true (a+(if b then g.1+2 else kZ g.1)+(x.1+least)-1) x.2).bind fun r=>some ((a+(if b then g.1+2 else kZ g.1),x.1+least)::r.1,r.2)
def rrns (l:qFm)(p:Nat)(node least many:Int):Option (List (Int×Int)×Nat):=(rgam l p (many/least)).bind fun g=>rrn l least many g.1.toNat false node g.2
theorem qoT {l:qFm}{least many:Int}:∀ {k:Nat} {b:Bool} {a:Int} {p:Nat} {r:List (Int×Int)×Nat},p≤l.length→rrn l least many k b a p=some r→r.1.length=k∧r.2≤l.length
 | 0,_,_,p,r,hp,h=>by simp only[rrn,qCy] at h;grind
 | k+1,b,a,p,r,hp,h=>by
  simp only[rrn,qC6,qCy] at h
  obtain ⟨g,h1,x,h2,r',h3,rfl⟩:=h
  have h4:=qoT (qaQ h2).2.2.2 h3
  simp_all
theorem qpg {g:Int}(h0:0≤g)(h:g≤2097152):-1048577≤kZ g∧kZ g≤1048576:=by grind [kZ]
theorem qtO {F:Nat}(hF:20000≤F){l:qFm}(hl:Bit l)(hm:l.length≤8192){least many:Int}(h0:0≤many)(h1:many≤300)(h2:2≤least)(h3:least≤300){w:List (Int×Int)}(hw:w.length≤1000):∀ (k:Nat) (o:List (Int×Int)) (a:Int) (p:Nat),w.length<k+o.length→o.length≤w.length→p≤l.length→(-3000000*((o.length:Int)+1)≤a∧a≤3000000*((o.length:Int)+1)) →
  Rd l (yz F (pk l) least many w k (o++qCo (w.length-o.length) (0,0),a,(o.length:Int),(l.length:Int),(p:Int)))
   ((rrn l least many (w.length-o.length) (decide (0<o.length)) a p).map fun r=>(o++r.1,r.2))
 | 0,_,_,_,_,_,_,_=>by omega
 | k+1,o,a,p,h,ho,hp,ha=>by
  show Rd l (qaN F (pk l) least many w (yz F (pk l) least many w k) (o++qCo (w.length-o.length) (0,0)) a (o.length:Int) (l.length:Int) (p:Int)) _
  unfold qaN
  by_cases hlt:o.length<w.length
  ·rw[if_pos (by simp_all)]
   obtain ⟨d,hd⟩:∃ d,w.length-o.length=d+1:=⟨w.length-o.length-1,by omega⟩
   rw[hd]
   unfold rrn
   rw[qDp,qE9]
   refine qgd (qie hF hl hm hp (by omega) (by omega)) (fun g hg=>?_) (fun z=>⟨_,rfl⟩)
   have hok:=qaQ hg
   have hun:=qpg hok.1 hok.2.1
   have hj:∀ (s:Int),s=a+(if decide (0<o.length)=true then g.1+2 else kZ g.1) →
     Rd l (yx F (yz F (pk l) least many w k) (pk l) least many (o++(0,0)::qCo d (0,0)) (o.length:Int) (g.1,(l.length:Int),(g.2:Int)) s)
      (Option.map (fun r=>(o++r.1,r.2)) ((rgam l g.2 many).bind fun x=>(rrn l least many d true (a+(if decide (0<o.length)=true then g.1+2 else kZ g.1)+(x.1+least)-1) x.2).bind fun r=>some ((a+(if decide (0<o.length)=true then g.1+2 else kZ g.1),x.1+least)::r.1,r.2))):=by
    intro s hs
    rw[← hs]
    have hsb:-3000000*((o.length:Int)+1)-1048577≤s∧s≤3000000*((o.length:Int)+1)+2097154:=by omega
    unfold yx
    rw[qE9]
    refine qgd (qie hF hl hm hok.2.2.2 h0 (by omega)) (fun x hx=>?_) (fun z=>⟨_,rfl⟩)
    have hox:=qaQ hx
    rw[qow,qCs,qxt]
    simp only[qCm,lett,Function.comp]
    rw[qow,zl (by omega) (by omega)]
    simp only[qCm]
    have e1:isub .i64 (x.1+least) 1=x.1+least-1:=zK (by omega) (by omega)
    rw[e1,zl (by omega) (by omega),qn (by omega)]
    have e:w.length-(o++[(s,x.1+least)]).length=d:=by grind
    have:=qtO hF hl hm h0 h1 h2 h3 hw k (o++[(s,x.1+least)]) (s+(x.1+least)-1) x.2 (by omega) (by grind) hox.2.2.2 (by omega)
    rw[e] at this
    simp only[qCv,qEh,qCt,qD1] at this
    rw[show decide (0<o.length+1)=true from by simp] at this
    have h9:((rrn l least many d true (s+(x.1+least)-1) x.2).bind fun r=>some ((s,x.1+least)::r.1,r.2)).map (fun r=>(o++r.1,r.2))=(rrn l least many d true (s+(x.1+least)-1) x.2).map fun r=>(o++(s,x.1+least)::r.1,r.2):=by
     cases rrn l least many d true (s+(x.1+least)-1) x.2 <;> simp
    grind
   simp only[Function.comp]
   by_cases hz:0<o.length
   ·rw[if_neg (by grind)]
    have e1:iadd .i64 g.1 2=g.1+2:=zl (by omega) (by omega)
    grind [zl]
   grind [qCp,vG,qnC,zl]
  ·rw[if_neg (by simp_all),show w.length-o.length=0 from by omega]
   rfl
theorem quQ (hF:20000≤F)(hl:Bit l)(hm:l.length≤8192){least:Int}(h0:0≤many)(h1:many≤300)(h2:2≤least)(h3:least≤300)(hn:Nd node)(hp:p≤l.length) :
  Rd l (qaM F (l.length:Int) (pk l) (p:Int) node least many) (rrns l p node least many):=by
 unfold qaM rrns
 unfold Nd at hn
 have hq:iquo .i64 many least=many/least:=by
  obtain ⟨m,rfl⟩:=qCp h0
  obtain ⟨c,rfl⟩:=qCp (show 0≤least by omega)
  unfold iquo
  rw[Int.tdiv_eq_ediv_of_nonneg (by omega)]
  have h5:(m:Int)/(c:Int)≤m:=qEC _ (by omega)
  grind [yA]
 have hd0:0≤many/least:=Int.ediv_nonneg h0 (by omega)
 have hd1:many/least≤many:=qEC _ h0
 have hc:∀ {ρ:Type} (m:Option ρ),chk (least != 0) m=m:=fun m=>by grind [chk]
 rw[hq,hc]
 refine qgd (qie hF hl hm hp hd0 (by omega)) (fun g hg=>?_) (fun z=>⟨_,rfl⟩)
 have hok:=qaQ hg
 obtain ⟨n,hn'⟩:=qCp hok.1
 rw[hn',qtl (by omega)]
 simp only[qCm,qCs]
 have:=qtO hF hl hm h0 h1 h2 h3 (w:=qCo n (0,0)) (by grind) F [] node g.2 (by grind) (by simp) hok.2.2.2 (by omega)
 simp_all
def rls2 (l:qFm)(node:Int)(k:Nat)(many:Int)(out:qFm)(R:List (Int×Int))(p:Nat):Option (qFm×Nat) :=
 if (rm R []).2=0∧((rm R []).1.length:Int)≤many-out.length then
  match gfr l k (many-out.length-(rm R []).1.length).toNat false node p with
  | .inl _=>none
  | .inr g=>some (srt (out++((rm R []).1++g.1)),g.2)
 else none
def rls1 (l:qFm)(node least:Int)(k:Nat)(many:Int)(out:qFm)(p:Nat):Option (qFm×Nat) :=
 if many-out.length=0 then some (out,p) else
 if 0<least then (rrns l p node least (many-out.length)).bind fun r=>rls2 l node k many out r.1 r.2 else rls2 l node k many out [] p
def rls (l:qFm)(p:Nat)(node:Int)(fr:qFm)(back least:Int)(k:Nat):Option (qFm×Nat) :=
 (rgam l p 300).bind fun m=>if m.1=0 then some ([],m.2) else
  if 0<back then (rblk l m.2 fr.length).bind fun b=>if (cpy fr b.1).2=0∧((cpy fr b.1).1.length:Int)≤m.1 then rls1 l node least k m.1 (cpy fr b.1).1 b.2 else none
  else rls1 l node least k m.1 [] m.2
theorem qwn {σ ρ:Type}(y:α)(k:α→Option ρ)(kl:σ→Option ρ):lbnd (some (.inl y)) k kl=k y:=rfl
theorem qhj {c:Bool}{ρ:Type}(k kl:Unit→Option ρ):lbnd (yE F c) k kl=if c then k () else kl ():=by cases c <;> rfl
theorem qwc {l:qFm}{k:Nat}:∀ {m:Nat} {b:Bool} {a:Int} {p:Nat} {e:Int},gfr l k m b a p=.inl e→e≠0
 | 0,_,_,_,_,h=>by simp[gfr] at h
 | m+1,b,a,p,e,h=>by
  unfold gfr at h
  split at h
  ·simp_all
  ·split at h
   ·grind
   ·split at h
    ·rename_i e' he;simp only[Sum.inl.injEq] at h;rw[← h];exact qwc he
    simp_all
theorem qwb {l:qFm}{k:Nat}(hl:Bit l)(hk:1≤k):∀ {m:Nat} {b:Bool} {a:Int} {p:Nat} {r:qFm×Nat},p≤l.length→gfr l k m b a p=.inr r→r.2≤l.length
 | 0,_,_,p,r,hp,h=>by grind [gfr]
 | m+1,b,a,p,r,hp,h=>by
  unfold gfr at h
  split at h
  ·grind
  ·rename_i h1
   split at h
   ·grind
   ·split at h
    ·grind
    ·rename_i r' hr
     simp only[Sum.inr.injEq] at h
     rcases qAw hl (k:=k) (p:=p) hk with h2 | ⟨g,q,h2,h3,h4⟩
     ·omega
     ·rw[h2] at hr
      rw[← h]
      exact qwb (r:=r') hl hk h4 hr
theorem qtJ {k:Nat}(hF:2000000≤F)(h1:1≤k)(h2:k≤16)(hl:Bit l)(hm:l.length≤8192)(hn:Nd node){out:qFm}(ho:(out.length:Int)≤many)(hmm:many≤300)(hp:p≤l.length){x:Int×Int×Int}(hx:x.1=many) :
  Rd l (yN F (pk l) node (k:Int) x out R (l.length:Int) (p:Int)) (rls2 l node k many out R p):=by
 unfold yN rls2
 rw[qwx (by omega),hx]
 simp only[qCm]
 have hlen:=qBj (R:=R) (rest:=[])
 have e1:isub .i64 many (out.length:Int)=many-out.length:=zK (by omega) (by omega)
 rw[qhj,e1]
 by_cases hc:(rm R []).2=0∧((rm R []).1.length:Int)≤many-out.length
 ·have e2:isub .i64 (many-(out.length:Int)) ((rm R []).1.length:Int)=((many-out.length-(rm R []).1.length).toNat:Int):=by grind [zK]
  rw[if_pos (by grind),if_pos hc,e2,qwd (by omega) hl hm h1 h2 (by omega) hp hn]
  simp only[qCm]
  rw[qhj]
  cases hg:gfr l k (many-out.length-(rm R []).1.length).toNat false node p with
  | inl e =>
   have:=qwc hg
   rw[if_neg (show ¬ ((gfI [] (Sum.inl e:Int ⊕ (qFm×Nat))).2.2 == 0)=true by simpa[gfI] using this)]
   exact ⟨_,rfl⟩
  | inr g =>
   have hgl:=qs9 hg
   rw[if_pos (show ((gfI [] (Sum.inr g:Int ⊕ (qFm×Nat))).2.2 == 0)=true by rfl),show (gfI [] (Sum.inr g:Int ⊕ (qFm×Nat))).1=g.1 from by rfl,qrw (by omega) (by omega)]
   simp only[qCm]
   rw[qzk (by grind)]
   simp only[qCm]
   have hch:∀ {ρ:Type} (q:Option ρ),chk (decide ((srt (out++((rm R []).1++g.1))).length=(out++((rm R []).1++g.1)).length)) q=q:=fun q=>by grind [chk,qii]
   rw[hch]
   rfl
 ·rw[if_neg (by grind),if_neg hc]
  exact ⟨_,rfl⟩
theorem qtI {k:Nat}(hF:2000000≤F)(h1:1≤k)(h2:k≤16)(hl:Bit l)(hm:l.length≤8192){least:Int}(hn:Nd node){out:qFm}(ho:(out.length:Int)≤many)(hmm:many≤300)(hp:p≤l.length){x:Int×Int×Int}(hx:x.1=many)(hle:least=0∨2≤least∧least≤300) :
  Rd l (yM F (pk l) node least (k:Int) x out (l.length:Int) (p:Int)) (rls1 l node least k many out p):=by
 unfold yM rls1
 have e1:isub .i64 x.1 (out.length:Int)=many-out.length:=by grind [zK]
 rw[e1]
 by_cases h0:many-out.length=0
 ·rw[if_pos (by grind),if_pos h0]
  rfl
 ·rw[if_neg (by grind),if_neg h0]
  by_cases hs:0<least
  ·rw[if_pos (by grind),if_pos hs]
   refine qgd (quQ (by omega) hl hm (by omega) (by omega) (by omega) (by omega) hn hp) (fun r hr=>?_) (fun z=>⟨_,rfl⟩)
   have hq:r.2≤l.length:=by
    unfold rrns at hr
    rw[qC6] at hr
    obtain ⟨g,hg,hr⟩:=hr
    exact (qoT (qaQ hg).2.2.2 hr).2
   grind [qtJ]
  grind [qtJ]
theorem qtC {b:qFm×Nat}(h:rblk l p many=some b):b.2≤l.length:=by
 unfold rblk at h
 rw[qC6] at h
 obtain ⟨g,hg,h⟩:=h
 exact (qtB (qaQ hg).2.2.2 h).2
theorem qBi {k:Nat}(hF:2000000≤F)(h1:1≤k)(h2:k≤16)(hl:Bit l)(hm:l.length≤8192){least:Int}{fr:qFm}(hn:Nd node)(hp:p≤l.length)(hfr:0<back→gkc fr=0)(hle:least=0∨2≤least∧least≤300) :
  Rd l (vU F (l.length:Int) (pk l) (p:Int) node fr back least (k:Int)) (rls l p node fr back least k):=by
 unfold vU rls
 refine qgd (qie (by omega) hl hm hp (by omega) (by omega)) (fun m hg=>?_) (fun z=>⟨_,rfl⟩)
 have hok:=qaQ hg
 by_cases h0:m.1=0
 ·rw[if_pos (by grind),if_pos h0]
  rfl
 ·rw[if_neg (by grind),if_neg h0]
  by_cases hb:0<back
  ·have hfl:=(vE.1 (hfr hb)).1
   rw[if_pos (by grind),if_pos hb]
   refine qgd (qqz (by omega) hl hm (by omega) (by omega) hok.2.2.2) (fun b hbk=>?_) (fun z=>⟨_,rfl⟩)
   rw[qyC (by omega)]
   simp only[qCm]
   rw[qhj]
   by_cases hc:(cpy fr b.1).2=0∧((cpy fr b.1).1.length:Int)≤m.1
   ·rw[if_pos (by grind),if_pos hc]
    exact qtI hF h1 h2 hl hm hn hc.2 (by omega) (qtC hbk) rfl hle
   ·rw[if_neg (by grind),if_neg hc]
    exact ⟨_,rfl⟩
  ·rw[if_neg (by grind),if_neg hb]
   exact qtI hF h1 h2 hl hm hn (by simp_all) (by omega) hok.2.2.2 rfl hle
theorem qxf {k:Nat}{least:Int}{fr:qFm}{r:qFm×Nat}(hl:Bit l)(h1:1≤k)(h:rls l p node fr back least k=some r):r.2≤l.length:=by
 have h2:∀ {many:Int} {out:qFm} {R:List (Int×Int)} {q:Nat},q≤l.length→rls2 l node k many out R q=some r→r.2≤l.length:=by
  intro many out R q hq hr
  unfold rls2 at hr
  split at hr
  ·split at hr
   ·grind
   ·rename_i g hg
    simp only[qCy] at hr
    rw[← hr]
    exact qwb (r:=g) hl h1 hq hg
  simp_all
 have h3:∀ {many:Int} {out:qFm} {q:Nat},q≤l.length→rls1 l node least k many out q=some r→r.2≤l.length:=by
  intro many out q hq hr
  unfold rls1 at hr
  split at hr
  ·grind
  ·split at hr
   ·rw[qC6] at hr
    obtain ⟨r',hr1,hr2⟩:=hr
    refine h2 ?_ hr2
    unfold rrns at hr1
    rw[qC6] at hr1
    obtain ⟨g,hg,hr1⟩:=hr1
    exact (qoT (qaQ hg).2.2.2 hr1).2
   grind
 unfold rls at h
 rw[qC6] at h
 obtain ⟨m,hm,h⟩:=h
 split at h
 ·simp only[qCy] at h;rw[← h];exact (qaQ hm).2.2.2
 ·split at h
  ·rw[qC6] at h
   obtain ⟨b,hb,h⟩:=h
   grind [qtC]
  ·exact h3 (qaQ hm).2.2.2 h
def rdl (l:qFm)(p:Nat)(node:Int)(fr:qFm)(back least:Int)(k:Nat):Option (qFm×Nat) :=
 (rls l p node fr back least k).bind fun r=>if gkc r.1=0∧(enc node r.1 fr back least k).length≤8192∧p+(enc node r.1 fr back least k).length=r.2∧(l.drop p).take (enc node r.1 fr back least k).length=enc node r.1 fr back least k then some r else none
theorem qtT {F:Nat}{l e:qFm}(hl:Bit l)(hm:l.length≤8192)(he:Bit e)(hem:e.length≤8192){p:Nat}{x17:qFm×Int×Int}(h17:x17.2.1=(l.length:Int))(hpe:p+e.length≤l.length):∀ (k i:Nat),e.length<k+i→i≤e.length →
  (if (l.drop (p+i)).take (e.length-i)=e.drop i then yO F (pk l) (p:Int) x17 ((e.length:Int),pk e,false) k (i:Int)=some (x17.1,true,x17.2.1,x17.2.2)
   else ∃ a b,yO F (pk l) (p:Int) x17 ((e.length:Int),pk e,false) k (i:Int)=some ([],false,a,b))
 | 0,_,_,_=>by omega
 | k+1,i,h,hi=>by
  have hd:yO F (pk l) (p:Int) x17 ((e.length:Int),pk e,false) (k+1) (i:Int)=qbt F (pk l) (p:Int) x17 ((e.length:Int),pk e,false) (yO F (pk l) (p:Int) x17 ((e.length:Int),pk e,false) k) (i:Int):=rfl
  rw[hd]
  unfold qbt
  by_cases hlt:i<e.length
  ·rw[if_pos (show decide ((i:Int)<(((e.length:Int),pk e,false):Int×qFm×Bool).1)=true by simp_all)]
   simp only
   rw[qpH he (by omega) hlt,h17,qcv (by omega),qpH hl (by omega) (show p+i<l.length by omega)]
   simp only[qCm]
   rw[qhj]
   have ih:=qtT (F:=F) hl hm he hem h17 hpe k (i+1) (by omega) (by omega)
   have hstep:((l.drop (p+i)).take (e.length-i)=e.drop i)↔(e[i]=l[p+i]∧(l.drop (p+(i+1))).take (e.length-(i+1))=e.drop (i+1)):=by
    rw[qCw (show p+i<l.length by omega),qCw hlt,show e.length-i=(e.length-(i+1))+1 from by omega,List.take_succ_cons,List.cons.injEq,show p+i+1=p+(i+1) from by omega]
    grind
   rw[qn (by omega)]
   grind
  ·obtain rfl:i=e.length:=by omega
   rw[if_neg (show ¬ decide (((e.length:Nat):Int)<(((e.length:Int),pk e,false):Int×qFm×Bool).1)=true by simp)]
   rw[if_pos (by simp)]
   rfl
theorem qyI {fr:qFm}{least:Int}{k:Nat}:1≤(enc node x fr back least k).length:=by
 grind [enc,qos]
theorem qxj {k:Nat}(hF:2000000≤F)(h1:1≤k)(h2:k≤16)(hl:Bit l)(hm:l.length≤8192){least:Int}{fr:qFm}(hn:Nd node)(hp:p≤l.length)(hfr:0<back→gkc fr=0)(hle:least=0∨2≤least∧least≤300) :
  match rdl l p node fr back least k with
  | none=>∃ a b,vV F (l.length:Int) (pk l) (p:Int) node fr back least (k:Int)=some ([],false,a,b)
  | some r=>vV F (l.length:Int) (pk l) (p:Int) node fr back least (k:Int)=some (r.1,true,(l.length:Int),(r.2:Int)):=by
 have hL:=qBi hF h1 h2 hl hm hn hp hfr hle
 unfold vV rdl
 cases hr:rls l p node fr back least k with
 | none =>
  rw[hr] at hL
  obtain ⟨z,hz⟩:=hL
  rw[hz]
  exact ⟨_,_,rfl⟩
 | some r =>
  rw[hr] at hL
  have hL':vU F (l.length:Int) (pk l) (p:Int) node fr back least (k:Int)=some (.inl (r.1,(l.length:Int),(r.2:Int))):=hL
  have hat:=qxf hl h1 hr
  rw[hL',qwn,qgU (by omega)]
  simp only[qCm]
  rw[qhj]
  by_cases hg:gkc r.1=0
  ·obtain ⟨e,f,he,hrep⟩:=qq7 hF h1 h2 (x:=r.1) hn hg hfr hle
   have hen:=qyI (node:=node) (x:=r.1) (fr:=fr) (back:=back) (least:=least) (k:=k)
   rw[if_pos (show (gkc r.1 == 0)=true by grind),he]
   simp only[qCm]
   cases f with
   | true =>
    have hfl:=hrep.full rfl
    rw[qhj]
    rw[if_neg (fun hh=>by omega)]
    exact ⟨_,_,rfl⟩
   | false =>
    have hel:=hrep.ok rfl
    have heb:=hrep.bit
    have hem:=hrep.len
    rw[hel] at heb hem ⊢
    simp only[qEP,if_true]
    rw[zK (by omega) (by omega),qhj]
    by_cases hq:p+(enc node r.1 fr back least k).length=r.2
    ·rw[if_pos (show (((enc node r.1 fr back least k).length:Int) == (r.2:Int)-p)=true by grind)]
     unfold jf
     have:=qtT (F:=F) hl hm heb hem (p:=p) (x17:=(r.1,(l.length:Int),(r.2:Int))) rfl (by omega) F 0 (by omega) (by omega)
     grind
    grind
  simp_all
theorem qif {n:Nat}(hn:n≤1099511627776)(hm:(n:Int)≤most)(P R:qFm):rgam (P++(ga n++R)) P.length most=some ((n:Int),P.length+(ga n).length):=by
 unfold rgam
 rw[← qCv,qBU hn]
 grind
theorem qoR {n:Int}(h0:0≤n)(hn:n≤1099511627776)(hm:n≤most)(P R:qFm):rgam (P++(ga n.toNat++R)) P.length most=some (n,P.length+(ga n.toNat).length):=by
 grind [qif]
theorem qtA {many:Int}(hmany:many≤1000000):∀ (bs:qFm) (b:Bool) (P R:qFm),okB (!b) bs=true→(∀ n∈bs,n≤many)→rbl (P++(encBs b bs++R)) many bs.length b P.length=some (bs,P.length+(encBs b bs).length)
 | [],b,P,R,_,_=>by rfl
 | n::bs,b,P,R,h,hb=>by
  rw[qhW] at h
  simp only[qC2,qDN,decide_eq_true_eq,qDR] at h
  have hn:=hb n (by simp)
  have hv:0≤n-(if b=true then 1 else 0):=by
   grind
  unfold encBs
  simp only[qCH,rbl,qCv]
  rw[qoR hv (by omega) (by omega)]
  simp only[qCm]
  have:=qtA hmany bs true (P++ga (n-if b=true then 1 else 0).toNat) R (by simp_all) (fun z hz=>hb z (by grind))
  grind
theorem qw7 (hmany:many≤1000000){bs:qFm}(P R:qFm)(h:okB true bs=true)(hb:∀ n∈bs,n≤many)(hl:(bs.length:Int)≤many+1):rblk (P++(encB bs++R)) P.length many=some (bs,P.length+(encB bs).length):=by
 grind [rblk,encB,qif,qCs,qtA,qCt]
theorem qtN {least many:Int}(hle:0≤least):∀ (R:List (Int×Int)) (b:Bool) (a q:Int) (P T:qFm),(∀ r∈R,RunOk r∧least≤r.2∧r.2-least≤many)→Nd a→Sep q R→(b=true→a+1≤q) →
  rrn (P++(encRs least b a R++T)) least many R.length b a P.length=some (R,P.length+(encRs least b a R).length)
 | [],_,_,_,P,T,_,_,_,_=>by rfl
 | r::R,b,a,q,P,T,hR,ha,hs,hb=>by
  obtain ⟨hro,hrl,hrm⟩:=hR r (by simp)
  obtain ⟨s1,s2,s3⟩:=hs
  unfold RunOk at hro
  unfold Nd at ha
  have hf:=qlB (x:=r.1-a) (by omega)
  have hf2:foldOf (r.1-a)≤2097152:=by grind [foldOf]
  have hv:0≤(if b=true then r.1-a-2 else foldOf (r.1-a))∧(if b=true then r.1-a-2 else foldOf (r.1-a))≤2097152:=by
   grind
  unfold encRs
  simp only[qCH,rrn,qCv]
  rw[qoR hv.1 (by omega) hv.2]
  simp only[qCm]
  have e1:=qoR (n:=r.2-least) (most:=many) (by omega) (by omega) hrm (P++ga (if b=true then r.1-a-2 else foldOf (r.1-a)).toNat) (encRs least true (r.1+r.2-1) R++T)
  simp only[qCv,qCt] at e1
  rw[e1]
  simp only[qCm]
  have e2:a+(if b=true then (if b=true then r.1-a-2 else foldOf (r.1-a))+2 else kZ (if b=true then r.1-a-2 else foldOf (r.1-a)))=r.1:=by
   cases b with
   | false=>simp only[qCF,if_false];rw[qkQ];omega
   | true=>grind
  rw[e2,show r.2-least+least=r.2 from by omega]
  have:=qtN hle R true (r.1+r.2-1) (r.1+r.2) ((P++ga (if b=true then r.1-a-2 else foldOf (r.1-a)).toNat)++ga (r.2-least).toNat) T (fun z hz=>hR z (by grind)) (by unfold Nd;omega) s3 (fun _=>by omega)
  grind
theorem qnh {least q:Int}(hle:2≤least):∀ {R:List (Int×Int)},Sep q R→(∀ r∈R,least≤r.2)→least*(R.length:Int)≤((flat R).length:Int)
 | [],_,_=>by simp
 | r::R,hs,hR=>by
  have h1:=hR r (by simp)
  have:=qnh hle hs.2.2 (fun z hz=>hR z (by grind))
  rw[ye,qCt,qfp,qCH]
  grind
theorem qxk {least q:Int}(hle:2≤least)(P T:qFm)(hR:∀ r∈R,RunOk r∧least≤r.2)(hn:Nd node)(hs:Sep q R)(hm:((flat R).length:Int)≤many)(hmm:many≤300) :
  rrns (P++(encR least node R++T)) P.length node least many=some (R,P.length+(encR least node R).length):=by
 unfold rrns encR
 have h1:=qnh hle hs (fun r hr=>(hR r hr).2)
 have h2:(R.length:Int)≤many/least:=by
  rw[Int.le_ediv_iff_mul_le (by omega)]
  grind
 have h3:many/least≤many:=qEC _ (by omega)
 rw[qCv,qif (by omega) h2]
 simp only[qCm,qCs]
 have:=qtN (least:=least) (many:=many) (by omega) R false node q (P++ga R.length) T (fun r hr=>⟨(hR r hr).1,(hR r hr).2,by have:=qke hr;omega⟩) hn hs (by simp)
 grind
theorem qs0 {least:Int}(h:gkc rest=0):skc (encO rest least)=0∧Ris (-1) (encS rest least)∧(flat (encO rest least)++encS rest least).Perm rest∧(flat (encO rest least)).Pairwise (·≤·):=by
 obtain ⟨hm,hs⟩:=vE.1 h
 unfold encO encS
 by_cases hl:0<least
 ·rw[if_pos hl,if_pos hl]
  exact ⟨qzs hm hs _,qoY hs _,qqL _ _,qtz (qcw (qoY hs _)).1⟩
 ·rw[if_neg hl,if_neg hl]
  exact ⟨by decide,hs,by rfl,by simp[flat]⟩
theorem qqC {k:Nat}(h1:1≤k)(h2:k≤16){least:Int}(hn:Nd node){out:qFm}(hr:gkc rest=0)(hx:gkc x=0)(hp:(out++rest).Perm x)(P T:qFm) :
  rls2 (P++(zes k (gp false node (encS rest least))++T)) node k x.length out (encO rest least) P.length=some (x,P.length+(zes k (gp false node (encS rest least))).length):=by
 obtain ⟨e1,e2,e3,e4⟩:=qs0 (least:=least) hr
 have hrm:=(vE.1 hr).1
 have hlen:=e3.length_eq
 have hlen2:=hp.length_eq
 rw[qCt] at hlen hlen2
 have hrmm:rm (encO rest least) []=(flat (encO rest least),0):=quO e1 (by decide) (by rw[qsU];simp) (by simp) e4 (by omega)
 unfold rls2
 rw[hrmm]
 simp only[true_and]
 rw[if_pos (by omega),show ((x.length:Int)-out.length-(flat (encO rest least)).length).toNat=(gp false node (encS rest least)).length from by rw[qrG];omega]
 have h40:L40 (gp false node (encS rest least)):=fun z hz=>by have:=qwg hn e2 (by simp) z hz;omega
 have:=qta h1 h2 P T h40 (qz3 (b:=false) hn e2 (by simp))
 rw[qCv] at this
 rw[this]
 simp only
 have hpx:(out++(flat (encO rest least)++encS rest least)).Perm x:=(List.Perm.append_left out e3).trans hp
 grind [qoW,qtz,qlC]
theorem qqB {k:Nat}(h1:1≤k)(h2:k≤16){least:Int}(hn:Nd node)(hle:least=0∨2≤least∧least≤300){out:qFm}(hr:gkc rest=0)(hx:gkc x=0)(ho:out.Pairwise (·≤·))(hp:(out++rest).Perm x)(P T:qFm) :
  rls1 (P++(encL node rest least k++T)) node least k x.length out P.length=some (x,P.length+(encL node rest least k).length):=by
 have hlen2:=hp.length_eq
 have hxm:=(vE.1 hx).1
 obtain ⟨hrm,hrs⟩:=vE.1 hr
 rw[qCt] at hlen2
 unfold rls1 encL
 by_cases h0:rest=[]
 ·subst h0
  simp only[qDP,Nat.add_zero] at hlen2
  rw[if_pos (by omega),if_pos rfl]
  rw[qC0] at hp
  have e1:=qoW hp (qtz (qlC hx))
  have e2:=qoW (qCU out) ho
  simp_all
 ·have hl0:rest.length≠0:=by grind
  rw[if_neg (by omega),if_neg h0]
  by_cases hl:0<least
  ·obtain ⟨e1,e2,e3,e4⟩:=qs0 (least:=least) hr
   have hlen:=e3.length_eq
   rw[qCt] at hlen
   obtain ⟨r1,r2⟩:=qxl hrm hrs
   have hO:encO rest least=spO least (rs rest):=by grind [encO]
   rw[if_pos hl,if_pos hl,qCv,qxk (q:=-1) (by omega) _ _ (fun r hrr=>by rw[hO] at hrr;exact ⟨r2 r (qDy.1 hrr).1,by simpa using (qDy.1 hrr).2⟩) hn (by rw[hO];exact qhq _ r1) (by omega) (by omega)]
   grind [qqC,qCt]
  ·rw[if_neg hl,if_neg hl,qCM]
   have hO:encO rest least=[]:=by grind [encO]
   grind [qqC]
theorem qzf {k:Nat}(h1:1≤k)(h2:k≤16){least:Int}{fr:qFm}(hn:Nd node)(hle:least=0∨2≤least∧least≤300)(hx:gkc x=0)(hfr:0<back→gkc fr=0)(P T:qFm) :
  rls (P++(enc node x fr back least k++T)) P.length node fr back least k=some (x,P.length+(enc node x fr back least k).length):=by
 have hxm:=(vE.1 hx).1
 unfold rls enc rstO
 rw[qCv,qif (by omega) (by omega)]
 simp only[qCm]
 by_cases h0:x=[]
 ·simp_all
 ·have hx0:x.length≠0:=by grind
  rw[if_neg (by omega),if_neg h0]
  by_cases hb:0<back
  ·have hfg:=hfr hb
   have hfl:=(vE.1 hfg).1
   rw[if_pos hb,if_pos hb,if_pos hb]
   have htl:=qpc fr x
   have hok:okB true (tbs fr x)=true:=qlQ _ _ _ _ (by omega) (Or.inl rfl)
   have hsum:bsum (tbs fr x)≤0+(fr.map (hasB x)).length:=qjq _ _ _ (by omega)
   rw[qCX] at hsum
   have e1:=qw7 (many:=(fr.length:Int)) (by omega) (bs:=tbs fr x) (P++ga x.length) (encL node (rst fr x) least k++T) hok (fun n hnm=>by have:=qoB hok n hnm;omega) (by omega)
   simp only[qCv,qCt] at e1
   rw[qCv,e1]
   simp only[qCm]
   rw[qyF hfg]
   have hbe:=qwO hfg hx
   have hfx:(fr.filter (hasB x)).length≤x.length:=by grind
   rw[if_pos ⟨rfl,by simp_all⟩]
   have hperm:(fr.filter (hasB x)++rst fr x).Perm x:=by rw[hbe];exact quv _ _
   have:=qqB h1 h2 hn hle (qtQ hx) hx (qtz ((qlC hfg).sublist qEo)) hperm ((P++ga x.length)++encB (tbs fr x)) T
   grind
  ·rw[if_neg hb,if_neg hb,if_neg hb,qCM]
   have:=qqB h1 h2 hn hle hx hx (out:=[]) (by simp) (by simp) (P++ga x.length) T
   grind
def hcB (back least k:Int):Prop:=back<0∨7<back∨least<0∨least=1∨300<least∨k<1∨16<k
instance hcDec (back least k:Int):Decidable (hcB back least k):=inferInstanceAs (Decidable (_∨_))
def hcE (back least k:Int):Int:=if hcB back least k then 3 else 0
def scE (node:Int)(fr:qFm)(back:Int):Int:=if Nd node then (if 0<back then gkc fr else 0) else 3
theorem qd9 {least:Int}:vD F back least k=some (hcE back least k):=by
 unfold vD hcE
 by_cases h:hcB back least k
 ·rw[if_pos (by unfold hcB at h;grind),if_pos h]
 ·rw[if_neg (by unfold hcB at h;simp_all),if_neg h]
theorem quU (hF:20000≤F){least:Int}{fr:qFm}:qfn F node fr back least k=some (scE node fr back):=by
 grind [qfn,scE,Nd,qgU]
theorem qfb {least:Int}(h:hcE back least k=0):(0≤back∧back≤7)∧(least=0∨2≤least∧least≤300)∧∃ k':Nat,k=(k':Int)∧1≤k'∧k'≤16:=by
 unfold hcE at h
 split at h
 ·omega
 ·rename_i h1
  unfold hcB at h1
  exact ⟨by omega,by omega,k.toNat,by omega,by omega,by omega⟩
theorem qBl {fr:qFm}(h:scE node fr back=0):Nd node∧(0<back→gkc fr=0):=by
 grind [scE]
theorem qBk {fr:qFm}(h:Nd node)(h2:0<back→gkc fr=0):scE node fr back=0:=by
 grind [scE]
theorem qqH {k:Nat}(hF:2000000≤F)(h1:1≤k)(h2:k≤16)(hl:Bit l)(hm:l.length≤8192){least:Int}{fr:qFm}(hn:Nd node)(hp:p≤l.length)(hfr:0<back→gkc fr=0)(hle:least=0∨2≤least∧least≤300) :
  qas F (l.length:Int) (pk l) (p:Int) node fr back least (k:Int)=some (match rdl l p node fr back least k with | none=>([],0,1) | some r=>(r.1,(r.2:Int),0)):=by
 grind [qxj,qas]
def swE (node:Int)(x fr:qFm)(back least k:Int):Int:=if hcE back least k≠0 then hcE back least k else if ¬ Nd node then 3 else if gkc x≠0 then gkc x else scE node fr back
def sw (node:Int)(x fr:qFm)(back least k:Int):Int×qFm×Int :=
 if swE node x fr back least k≠0 then (0,[],swE node x fr back least k) else
 if 8192<(enc node x fr back least k.toNat).length then (0,[],8) else (((enc node x fr back least k.toNat).length:Int),pk (enc node x fr back least k.toNat),0)
theorem qBu {least:Int}{fr:qFm}(h:swE node x fr back least k=0):hcE back least k=0∧Nd node∧gkc x=0∧(0<back→gkc fr=0):=by
 grind [swE,qBl]
theorem qBt {least:Int}{fr:qFm}(h1:hcE back least k=0)(h2:Nd node)(h3:gkc x=0)(h4:0<back→gkc fr=0):swE node x fr back least k=0:=by
 grind [swE,qBk]
theorem quZ (hF:2000000≤F){least:Int}{fr:qFm}:qfm F node x fr back least k=some (sw node x fr back least k):=by
 have hj:qbd F node x fr back least k (swE node x fr back least k)=some (sw node x fr back least k):=by
  unfold qbd sw
  by_cases h:swE node x fr back least k=0
  ·rw[if_neg (by grind),if_neg (by omega)]
   obtain ⟨h1,h2,h3,h4⟩:=qBu h
   obtain ⟨k1,k2,k',rfl,k3,k4⟩:=qfb h1
   obtain ⟨l,f,e,hr⟩:=qq7 hF k3 k4 h2 h3 h4 k2
   rw[e]
   simp only[qCm,qCs]
   cases f with
   | true=>have:=hr.full rfl;simp_all
   | false =>
    have e1:=hr.ok rfl
    have e2:=hr.len
    simp_all
  simp_all
 unfold qfm
 rw[qd9]
 simp only[qCm]
 by_cases h1:hcE back least k=0
 ·rw[if_pos (by grind),qy2]
  grind [qbe,qbb,qgU,qbc,swE,quU]
 grind [swE,qbe,qbb,qbc]
theorem qtD {k:Nat}(h1:1≤k)(h2:k≤16){least:Int}{fr:qFm}(hn:Nd node)(hle:least=0∨2≤least∧least≤300)(hx:gkc x=0)(hfr:0<back→gkc fr=0)(P T:qFm)(hL:(enc node x fr back least k).length≤8192) :
  rdl (P++(enc node x fr back least k++T)) P.length node fr back least k=some (x,P.length+(enc node x fr back least k).length):=by
 grind [rdl,qzf]
theorem qqA {k:Nat}{least:Int}{fr:qFm}{r:qFm×Nat}(hl:Bit l)(h1:1≤k)(h:rdl l p node fr back least k=some r) :
  gkc r.1=0∧(enc node r.1 fr back least k).length≤8192∧p+(enc node r.1 fr back least k).length=r.2∧(l.drop p).take (enc node r.1 fr back least k).length=enc node r.1 fr back least k∧r.2≤l.length:=by
 unfold rdl at h
 rw[qC6] at h
 obtain ⟨r',h2,h⟩:=h
 split at h
 ·rename_i hc
  simp only[qCy] at h
  subst h
  exact ⟨hc.1,hc.2.1,hc.2.2.1,hc.2.2.2,qxf hl h1 h2⟩
 simp_all
theorem qs1 {least:Int}{fr:qFm}{k:Nat}:Bit (enc node x fr back least k):=by
 have hn:Bit ([]:qFm):=by intro z hz;grind
 have h1:∀ (bs:qFm) (b:Bool),Bit (encBs b bs):=by
  intro bs
  induction bs with
  | nil=>intro b;exact hn
  | cons n bs ih=>intro b;exact vt (qi0 _) (ih true)
 have h2:∀ (R:List (Int×Int)) (b:Bool) (a:Int),Bit (encRs least b a R):=by
  intro R
  induction R with
  | nil=>intro b a;exact hn
  | cons r R ih=>intro b a;exact vt (qi0 _) (vt (qi0 _) (ih true _))
 grind [enc,encL,encB,encR,vt,qi0,qua]
theorem qCc {least:Int}{fr:qFm}(h:swE node x fr back least k=0)(h2:(enc node x fr back least k.toNat).length≤8192):sw node x fr back least k=(((enc node x fr back least k.toNat).length:Int),pk (enc node x fr back least k.toNat),0):=by
 grind [sw]
def pkH (B:Int)(r:Nat):qFm:=if 0<B then ga r else []
def pkF (g:List (qFm))(i r:Nat):qFm:=if 0<r then g.getD (i-r) [] else []
def pkW (g:List (qFm))(B least:Int)(k i r:Nat):qFm:=pkH B r++enc (i:Int) (g.getD i []) (pkF g i r) (r:Int) least k
def bwy (f:Nat→qFm):Nat→Nat×qFm
 | 0=>(0,f 0)
 | n+1=>if (f (n+1)).length<(bwy f n).2.length then (n+1,f (n+1)) else bwy f n
theorem qvz (f:Nat→qFm):∀ n:Nat,(bwy f n).1≤n∧(bwy f n).2=f (bwy f n).1
 | 0=>⟨qCE _,rfl⟩
 | n+1=>by
  have:=qvz f n
  unfold bwy
  grind
theorem qsP (f:Nat→qFm):∀ {n r:Nat},r≤n→(bwy f n).2.length≤(f r).length
 | 0,r,h=>by
  have:r=0:=by omega
  subst this;exact qCE _
 | n+1,r,h=>by
  unfold bwy
  by_cases hr:r=n+1
  ·grind
  ·have:=qsP f (n:=n) (r:=r) (by omega)
   grind
theorem qmZ {f f':Nat→qFm}:∀ {n:Nat},(∀ r,r≤n→f r=f' r)→bwy f n=bwy f' n
 | 0,h=>by unfold bwy;simp_all
 | n+1,h=>by
  unfold bwy
  rw[h (n+1) (qCE _),qmZ (n:=n) fun r hr=>h r (by omega)]
def pkN (g:List (qFm))(B least:Int)(k i:Nat):Nat×qFm:=bwy (pkW g B least k i) (min B.toNat i)
def pkA (g:List (qFm))(B least:Int)(k:Nat):Nat→qFm×qFm×qFm
 | 0=>([],[],[])
 | n+1=>((pkA g B least k n).1++(pkN g B least k n).2,(pkA g B least k n).2.1++[((pkN g B least k n).1:Int)],(pkA g B least k n).2.2++[((pkA g B least k n).1.length:Int)])
def pkE (g:List (qFm))(B least k:Int):Int:=if gchk g≠0 then gchk g else if hcE B least k≠0 then hcE B least k else if 8192<(pkA g B least k.toNat g.length).1.length then 8 else 0
theorem qhY {g:List (qFm)}{least:Int}(h:pkE g B least k=0):gchk g=0∧hcE B least k=0∧(pkA g B least k.toNat g.length).1.length≤8192:=by
 grind [pkE]
theorem qBd {g:List (qFm)}{least:Int}(h1:gchk g=0)(h2:hcE B least k=0)(h3:(pkA g B least k.toNat g.length).1.length≤8192):pkE g B least k=0:=by
 grind [pkE]
theorem qoL {g:List (qFm)}{B least:Int}{k:Nat}:∀ {n i:Nat},i≤n→∃ R,(pkA g B least k n).1=(pkA g B least k i).1++R
 | 0,i,h=>by
  simp_all
 | n+1,i,h=>by
  by_cases hi:i=n+1
  ·simp_all
  ·obtain ⟨R,hR⟩:=qoL (g:=g) (B:=B) (least:=least) (k:=k) (n:=n) (i:=i) (by omega)
   grind [pkA]
theorem qqp {g:List (qFm)}{B least:Int}{k:Nat}:∀ n:Nat,(pkA g B least k n).2.1.length=n∧(pkA g B least k n).2.2.length=n
 | 0=>⟨rfl,rfl⟩
 | n+1=>by
  have:=qqp (g:=g) (B:=B) (least:=least) (k:=k) n
  grind [pkA]
theorem qhX {g:List (qFm)}{least:Int}{k n i:Nat}(h:i≤n):(pkA g B least k i).1.length≤(pkA g B least k n).1.length:=by
 obtain ⟨R,hR⟩:=qoL (g:=g) (B:=B) (least:=least) (k:=k) h
 simp_all
theorem qlV {g:List (qFm)}{least:Int}{k i:Nat}:(pkN g B least k i).1≤min B.toNat i∧(pkN g B least k i).2=pkW g B least k i (pkN g B least k i).1:=qvz _ _
theorem qqq {g:List (qFm)}{least:Int}{k n i:Nat}(h:i<n):∃ R,(pkA g B least k n).1=(pkA g B least k i).1++((pkH B (pkN g B least k i).1++enc (i:Int) (g.getD i []) (pkF g i (pkN g B least k i).1) ((pkN g B least k i).1:Int) least k)++R):=by
 obtain ⟨R,hR⟩:=qoL (g:=g) (B:=B) (least:=least) (k:=k) (n:=n) (i:=i+1) h
 grind [pkA,qlV,pkW]
theorem qAV {g:List (qFm)}(h:Gr g)(hl:l∈g):gkc l=0:=by
 have h1:=h.2.1 l hl
 have h2:=qca h hl
 have h3:=h.1
 grind [vE,qoQ,Nd]
theorem qot {g:List (qFm)}(h:Gr g)(i:Nat):gkc (g.getD i [])=0:=by
 by_cases hi:i<g.length
 ·grind [qAV]
 ·rw[List.getD_eq_getElem?_getD,List.getElem?_eq_none (by omega)]
  decide
theorem qk4 {g:List (qFm)}(h:Gr g)(i r:Nat):gkc (pkF g i r)=0:=by
 unfold pkF
 split
 ·exact qot h _
 rfl
def pkO (l:qFm)(B:Int)(node p:Nat):Option (Int×Nat):=if B=0 then some (0,p) else rgam l p (min B (node:Int))
def pkR (l:qFm)(B least:Int)(k:Nat):Nat→List (qFm)→Nat→Option (List (qFm)×Nat)
 | 0,out,p=>some (out,p)
 | m+1,out,p=>(pkO l B out.length p).bind fun o=>(rdl l o.2 (out.length:Int) (pkF out out.length o.1.toNat) o.1 least k).bind fun r=>pkR l B least k m (out++[r.1]) r.2
theorem qwS {g:List (qFm)}{i:Nat}(h:r≤i)(_hi:i≤g.length):pkF (g.take i) i r=pkF g i r:=by
 grind [pkF]
theorem qoN {g:List (qFm)}(hg:Gr g){B least:Int}{k:Nat}(hh:hcE B least (k:Int)=0)(hl:(pkA g B least k g.length).1.length≤8192)(T:qFm):∀ (m i:Nat),i+m=g.length →
  pkR ((pkA g B least k g.length).1++T) B least k m (g.take i) (pkA g B least k i).1.length=some (g,(pkA g B least k g.length).1.length)
 | 0,i,h=>by
  grind [pkR]
 | m+1,i,h=>by
  have hi:i<g.length:=by omega
  obtain ⟨k1,k2,k',hk,k3,k4⟩:=qfb hh
  have hkk:k=k':=by omega
  subst hkk
  obtain ⟨hr,_⟩:=qlV (g:=g) (B:=B) (least:=least) (k:=k) (i:=i)
  have hgl:=hg.1
  have hti:(g.take i).length=i:=by grind
  obtain ⟨R,hR⟩:=qqq (g:=g) (B:=B) (least:=least) (k:=k) hi
  have hnext:=qoN hg hh hl T m (i+1) (by omega)
  have hA:(pkA g B least k (i+1)).1.length=(pkA g B least k i).1.length+(pkH B (pkN g B least k i).1).length+(enc (i:Int) (g.getD i []) (pkF g i (pkN g B least k i).1) ((pkN g B least k i).1:Int) least k).length:=by
   grind [pkA,pkW]
  have hO:pkO ((pkA g B least k g.length).1++T) B i (pkA g B least k i).1.length=some (((pkN g B least k i).1:Int),(pkA g B least k i).1.length+(pkH B (pkN g B least k i).1).length):=by
   grind [pkO,pkH,qif]
  unfold pkR
  rw[hti,hO]
  simp only[qCm,qCs]
  rw[qwS (by omega) (by omega)]
  have hE:(enc (i:Int) (g.getD i []) (pkF g i (pkN g B least k i).1) ((pkN g B least k i).1:Int) least k).length≤8192:=by
   grind
  have hD:=qtD (k:=k) k3 k4 (node:=(i:Int)) (back:=((pkN g B least k i).1:Int)) (least:=least) (x:=g.getD i []) (fr:=pkF g i (pkN g B least k i).1) (by unfold Nd;omega) k2 (qot hg i) (fun _=>qk4 hg _ _) ((pkA g B least k i).1++pkH B (pkN g B least k i).1) (R++T) hE
  simp_all
theorem qAY {least:Int}(h:hcE B least k=0)(hr:(r:Int)≤B):hcE (r:Int) least k=0:=by
 grind [hcE,hcB]
theorem qzQ (hF:2000000≤F){A:List (qFm)}{fr H:qFm}{i k:Nat}{least:Int}(hA:A.length=i)(hi:i≤100)(hx:gkc x=0)(hfr:gkc fr=0)(hh:hcE (r:Int) least (k:Int)=0)(hH:Bit H)(hHl:H.length≤100) :
  qb6 F A x (r:Int) least (k:Int) (H.length:Int) (pk H) fr=some (if (H++enc (i:Int) x fr (r:Int) least k).length≤8192 then ((r:Int),((H++enc (i:Int) x fr (r:Int) least k).length:Int),pk (H++enc (i:Int) x fr (r:Int) least k),true) else (0,0,[],false)):=by
 unfold qb6
 rw[quZ hF,hA]
 simp only[qCm]
 have hE:swE (i:Int) x fr (r:Int) least (k:Int)=0:=qBt hh (by unfold Nd;omega) hx (fun _=>hfr)
 rw[qCt]
 by_cases h1:(enc (i:Int) x fr (r:Int) least k).length≤8192
 ·have hs:=qCc hE (by simp_all)
  rw[qCs] at hs
  grind [zl,qoc,qiA,qs1,qlR,qhA]
 grind [sw]
theorem qzP (hF:2000000≤F){g:List (qFm)}(hg:Gr g){least:Int}{k i:Nat}(hh:hcE B least (k:Int)=0)(hi:i≤g.length)(hr:r≤min B.toNat i) :
  qf9 F (g.take i) (g.getD i []) (r:Int) B least (k:Int)=some (if (pkW g B least k i r).length≤8192 then ((r:Int),((pkW g B least k i r).length:Int),pk (pkW g B least k i r),true) else (0,0,[],false)):=by
 have hgl:=hg.1
 have hti:(g.take i).length=i:=by simp_all
 obtain ⟨k1,-,-⟩:=qfb hh
 have hh':hcE (r:Int) least (k:Int)=0:=qAY hh (by omega)
 have hj:∀ H:qFm,Bit H→H.length≤100→qb5 F (g.take i) (g.getD i []) (r:Int) least (k:Int) (H.length:Int) (pk H)=some (if (H++enc (i:Int) (g.getD i []) (pkF g i r) (r:Int) least k).length≤8192 then ((r:Int),((H++enc (i:Int) (g.getD i []) (pkF g i r) (r:Int) least k).length:Int),pk (H++enc (i:Int) (g.getD i []) (pkF g i r) (r:Int) least k),true) else (0,0,[],false)):=by
  intro H hH hHl
  unfold qb5
  grind [zK,qj,pkF,qzQ,qot,qk4]
 unfold qf9 pkW pkH
 by_cases hB:0<B
 ·have hga:=qAa (n:=r) (by omega)
  rw[if_pos (by grind),if_pos hB,vG (by omega),qkJ (by omega) (by omega)]
  grind [qi0]
 ·rw[if_neg (by grind),if_neg hB]
  exact hj [] (by intro z hz;grind) (by simp)
def bst (f:Nat→qFm)(j:Nat):Bool×Int×Int×qFm:=if j=0 then (false,0,0,[]) else if (bwy f (j-1)).2.length≤8192 then (true,((bwy f (j-1)).1:Int),((bwy f (j-1)).2.length:Int),pk (bwy f (j-1)).2) else (false,0,0,[])
theorem qvt {F:Nat}(hF:2000000≤F){g:List (qFm)}(hg:Gr g){B least:Int}{k i:Nat}(hh:hcE B least (k:Int)=0)(hi:i≤g.length):∀ (n j:Nat),min B.toNat i+1<n+j→j≤min B.toNat i+1 →
  vy F (g.take i) (g.getD i []) B least (k:Int) n ((bst (pkW g B least k i) j).1,(j:Int),(bst (pkW g B least k i) j).2.1,(bst (pkW g B least k i) j).2.2.1,(bst (pkW g B least k i) j).2.2.2)=some (if (pkN g B least k i).2.length≤8192 then (((pkN g B least k i).1:Int),((pkN g B least k i).2.length:Int),pk (pkN g B least k i).2,true) else (0,0,[],false))
 | 0,_,_,_=>by omega
 | n+1,j,h,hj=>by
  have hgl:=hg.1
  have hti:(g.take i).length=i:=by simp_all
  obtain ⟨k1,-,-⟩:=qfb hh
  show qe2 F (g.take i) (g.getD i []) B least (k:Int) (vy F (g.take i) (g.getD i []) B least (k:Int) n) (bst (pkW g B least k i) j).1 (j:Int) (bst (pkW g B least k i) j).2.1 (bst (pkW g B least k i) j).2.2.1 (bst (pkW g B least k i) j).2.2.2=_
  unfold qe2
  have hmin:imin B ((g.take i).length:Int)=((min B.toNat i:Nat):Int):=by
   grind [imin]
  rw[hmin,zl (by omega) (by omega)]
  by_cases hlt:j<min B.toNat i+1
  ·rw[if_pos (by grind),qzP hF hg hh hi (by omega)]
   simp only[qCm]
   have hrec:=qvt hF hg hh hi n (j+1) (by omega) (by omega)
   have hnew:(pkW g B least k i j).length≤8192→bwy (pkW g B least k i) j=(j,pkW g B least k i j)→vx F (vy F (g.take i) (g.getD i []) B least (k:Int) n) (j:Int) true (j:Int) ((pkW g B least k i j).length:Int) (pk (pkW g B least k i j))=some (if (pkN g B least k i).2.length≤8192 then (((pkN g B least k i).1:Int),((pkN g B least k i).2.length:Int),pk (pkN g B least k i).2,true) else (0,0,[],false)):=by
    grind [vx,qn,bst]
   have hold:bst (pkW g B least k i) (j+1)=bst (pkW g B least k i) j→vx F (vy F (g.take i) (g.getD i []) B least (k:Int) n) (j:Int) (bst (pkW g B least k i) j).1 (bst (pkW g B least k i) j).2.1 (bst (pkW g B least k i) j).2.2.1 (bst (pkW g B least k i) j).2.2.2=some (if (pkN g B least k i).2.length≤8192 then (((pkN g B least k i).1:Int),((pkN g B least k i).2.length:Int),pk (pkN g B least k i).2,true) else (0,0,[],false)):=by
    grind [vx,qn]
   unfold qcI
   by_cases hl:(pkW g B least k i j).length≤8192
   ·rw[if_pos hl]
    simp only[if_true]
    by_cases h0:j=0
    ·subst h0
     rw[if_pos (by rfl)]
     exact hnew hl rfl
    ·obtain ⟨q,rfl⟩:∃ q,j=q+1:=⟨j-1,by omega⟩
     grind [bwy,bst]
   ·rw[if_neg hl]
    simp only[qCF,if_false]
    refine hold ?_
    unfold bst
    rw[if_neg (by omega),qEf]
    by_cases h0:j=0
    ·subst h0
     rw[if_pos rfl,bwy,if_neg hl]
    ·obtain ⟨q,rfl⟩:∃ q,j=q+1:=⟨j-1,by omega⟩
     grind [bwy]
  grind [qfL,bst,pkN]
theorem qyr (hF:2000000≤F){g:List (qFm)}(hg:Gr g){least:Int}{k i:Nat}(hh:hcE B least (k:Int)=0)(hi:i≤g.length) :
  qhL F (g.take i) (g.getD i []) B least (k:Int)=some (if (pkN g B least k i).2.length≤8192 then (((pkN g B least k i).1:Int),((pkN g B least k i).2.length:Int),pk (pkN g B least k i).2,true) else (0,0,[],false)):=by
 have hgl:=hg.1
 have:=qvt hF hg hh hi F 0 (by omega) (qCT _)
 exact this
theorem qy8 {g:List (qFm)}{least:Int}{k i:Nat}:Bit (pkW g B least k i r):=by
 grind [pkW,pkH,vt,qs1,qi0]
theorem qoM {g:List (qFm)}{least:Int}{k i:Nat}:Bit (pkN g B least k i).2:=by
 grind [qlV,qy8]
theorem qhm {g:List (qFm)}{B least:Int}{k:Nat}:∀ n:Nat,Bit (pkA g B least k n).1
 | 0=>by intro z hz;simp[pkA] at hz
 | n+1=>by unfold pkA;exact vt (qhm n) qoM
theorem qp9 {g:List (qFm)}{i:Nat}(h:i<g.length):idx g (i:Int)=some (g.getD i []):=by
 grind [qj]
theorem qty {F:Nat}(hF:2000000≤F){g:List (qFm)}(hg:Gr g){N B least:Int}{k:Nat}(hh:hcE B least (k:Int)=0):∀ (j i:Nat),g.length<j+i→i≤g.length→(pkA g B least k i).1.length≤8192 →
  ∃ z,kS F N B least (k:Int) g j ((i:Int),((pkA g B least k i).1.length:Int),pk (pkA g B least k i).1,(pkA g B least k i).2.1,(pkA g B least k i).2.2)=some z∧z.1=decide ((pkA g B least k g.length).1.length≤8192) ∧
   (z.1=true→z=(true,N,B,least,(k:Int),((pkA g B least k g.length).1.length:Int),pk (pkA g B least k g.length).1,(pkA g B least k g.length).2.1,(pkA g B least k g.length).2.2))
 | 0,_,_,_,_=>by omega
 | j+1,i,h,hi,hA=>by
  have hgl:=hg.1
  show ∃ z,qaB F N B least (k:Int) g (kS F N B least (k:Int) g j) (i:Int) ((pkA g B least k i).1.length:Int) (pk (pkA g B least k i).1) (pkA g B least k i).2.1 (pkA g B least k i).2.2=some z∧_
  unfold qaB
  by_cases hlt:i<g.length
  ·have e0:sub g 0 (i:Int)=some (g.take i):=by
    have:=qkP (l:=g) (i:=0) (j:=i) (by omega) hi
    simp_all
   have hstep:(pkA g B least k (i+1)).1.length=(pkA g B least k i).1.length+(pkN g B least k i).2.length:=by rw[pkA,qCt]
   have hmono:=qhX (g:=g) (B:=B) (least:=least) (k:=k) (show i+1≤g.length from hlt)
   rw[if_pos (by simp_all),qp9 hlt,e0]
   simp only[qCm]
   rw[qyr hF hg hh hi]
   simp only[qCm]
   unfold qaD
   by_cases h1:(pkN g B least k i).2.length≤8192
   ·rw[if_pos h1]
    simp only[qDl,qCF,if_false]
    rw[zl (by omega) (by omega)]
    unfold yn
    by_cases h2:(pkA g B least k i).1.length+(pkN g B least k i).2.length≤8192
    ·rw[if_neg (by grind)]
     have hl:=qqp (g:=g) (B:=B) (least:=least) (k:=k) i
     rw[ko (by grind)]
     simp only[qCm]
     rw[ko (by grind)]
     simp only[qCm]
     unfold qaE
     rw[qoc (by omega) (qiA (qhm i)) (qiA qoM) (qlR hA) (qlR h1),qhA (qhm i),qhA qoM]
     simp only[qCm]
     have:=qty hF hg (N:=N) hh j (i+1) (by omega) (by omega) (by omega)
     rw[qn (by omega),← hstep]
     exact this
    ·rw[if_pos (by grind)]
     grind
   ·rw[if_neg h1]
    simp only[qEP,if_true]
    unfold yn
    grind
  ·rw[if_neg (by simp_all)]
   have:i=g.length:=by omega
   subst this
   unfold qaC
   simp_all
theorem qnn (hF:2000000≤F){g:List (qFm)}{least:Int} :
  ∃ z1 z2 z3 z4 z5 z6 z7 z8,qcz F g B least k=some (z1,z2,z3,z4,z5,z6,z7,z8,pkE g B least k) ∧
   (pkE g B least k=0→(z1,z2,z3,z4,z5,z6,z7,z8)=((g.length:Int),B,least,k,((pkA g B least k.toNat g.length).1.length:Int),pk (pkA g B least k.toNat g.length).1,(pkA g B least k.toNat g.length).2.1,(pkA g B least k.toNat g.length).2.2)):=by
 unfold qcz
 rw[yY (by omega)]
 simp only[qCm]
 by_cases h1:gchk g=0
 ·rw[if_pos (by grind),qd9]
  simp only[qCm]
  unfold qac
  by_cases h2:hcE B least k=0
  ·rw[if_pos (by grind)]
   obtain ⟨_,_,k',rfl,_,_⟩:=qfb h2
   have hg:=yi.1 h1
   have hgl:=hg.1
   obtain ⟨z,hz,hz1,hz2⟩:=qty hF hg (N:=(g.length:Int)) h2 F 0 (by omega) (qCT _) (by simp[pkA])
   have hz':qcQ F (g.length:Int) B least (k':Int) 0 [] [] [] g=some z:=by
    have e:pk ([]:qFm)=[]:=by rfl
    simp only[pkA,qDP,e] at hz
    exact hz
   rw[hz']
   simp only[qCm]
   unfold vJ vI
   rw[qCs]
   by_cases h3:(pkA g B least k' g.length).1.length≤8192
   ·rw[decide_eq_true h3] at hz1
    have:=hz2 hz1
    have hE:pkE g B least (k':Int)=0:=qBd h1 h2 (by simp_all)
    grind
   ·rw[decide_eq_false h3] at hz1
    have hE:pkE g B least (k':Int)=8:=by
     grind [pkE]
    simp_all
  ·have hE:pkE g B least k=hcE B least k:=by
    grind [pkE]
   rw[if_neg (by grind),hE]
   unfold vJ vI
   simp_all
 ·have hE:pkE g B least k=gchk g:=by
   grind [pkE]
  rw[if_neg (by grind),hE]
  unfold qac vJ vI
  simp_all
def pwr (g:List (qFm))(B least k:Int):Int×Int×Int×Int×Int×qFm×Int :=
 if pkE g B least k≠0 then (0,0,0,0,0,[],pkE g B least k) else ((g.length:Int),B,least,k,((pkA g B least k.toNat g.length).1.length:Int),pk (pkA g B least k.toNat g.length).1,0)
def ptl (g:List (qFm))(B least k:Int):qFm×qFm×Int :=
 if pkE g B least k≠0 then ([],[],pkE g B least k) else ((pkA g B least k.toNat g.length).2.1,(pkA g B least k.toNat g.length).2.2,0)
theorem qkp (hF:2000000≤F){g:List (qFm)}{least:Int}:qcp F g B least k=some (pwr g B least k):=by
 obtain ⟨z1,z2,z3,z4,z5,z6,z7,z8,hz,hz2⟩:=qnn hF (g:=g) (B:=B) (least:=least) (k:=k)
 unfold qcp pwr
 grind
theorem qw0 (hF:2000000≤F){g:List (qFm)}{least:Int}:qeL F g B least k=some (ptl g B least k):=by
 obtain ⟨z1,z2,z3,z4,z5,z6,z7,z8,hz,hz2⟩:=qnn hF (g:=g) (B:=B) (least:=least) (k:=k)
 unfold qeL ptl
 grind
theorem qwQ {F:Nat}{xs ys:qFm}(he:xs.length=ys.length)(hm:xs.length≤1000000):∀ (k i:Nat),xs.length<k+i→i≤xs.length→kB F xs ys k (i:Int)=some (decide (xs.drop i=ys.drop i))
 | 0,_,_,_=>by omega
 | k+1,i,h,hi=>by
  show kA F xs ys (kB F xs ys k) (i:Int)=_
  unfold kA
  by_cases hlt:i<xs.length
  ·have hlt':i<ys.length:=by omega
   rw[if_pos (by simp_all),qj,qCn hlt,qj,qCn hlt']
   simp only[qCm]
   rw[qCw hlt,qCw hlt']
   by_cases hc:xs[i]=ys[i]
   ·rw[if_neg (by grind),qn (by omega),qwQ he hm k (i+1) (by omega) (by omega)]
    congr 1
    grind
   grind [List.cons.inj]
  ·rw[if_neg (by simp_all),qCB (by omega),qCB (by omega)]
   rfl
theorem peqb {xs ys:qFm}(hF:xs.length<F)(hm:xs.length≤1000000):q9 F xs ys=some (decide (xs=ys)):=by
 unfold q9
 by_cases h:xs.length=ys.length
 ·rw[if_neg (by grind)]
  have:=qwQ (F:=F) h hm F 0 (by omega) (qCT _)
  simp_all
 ·rw[if_pos (by grind),decide_eq_false (fun e=>h (by rw[e]))]
theorem quN (h:rgam l p most=none):(fg l p).2.2≠0∨most<(fg l p).1:=by
 grind [rgam]
theorem qtF {x:Int×Nat}(h:rgam l p most=some x):fg l p=(x.1,(x.2:Int),0)∧x.1≤most:=by
 grind [rgam,qv2]
theorem qwT (_hB:0≤B){node:Nat}(hp:p≤l.length){o:Int×Nat}(h:pkO l B node p=some o):0≤o.1∧o.1≤min B (node:Int)∧o.2≤l.length:=by
 unfold pkO at h
 split at h
 ·grind
 ·have:=qaQ h
  omega
theorem qtw (hF:20000≤F)(hl:Bit l)(hm:l.length≤8192){least:Int}(hB:0≤B∧B≤7){node:Nat}(hn:node≤1000)(hp:p≤l.length) :
  qfK F N B least k (l.length:Int) (pk l) (p:Int) (node:Int)=some (match pkO l B node p with | none=>(0,0,false) | some o=>(o.1,(o.2:Int),true)):=by
 unfold qfK pkO
 by_cases h0:B=0
 ·rw[if_pos (by simpa using h0),if_pos h0]
 ·rw[if_neg (by simpa using h0),if_neg h0,qjy hF hl hm hp]
  simp only[qCm]
  have hmin:imin B (node:Int)=min B (node:Int):=by unfold imin;split <;> omega
  have hcv:iconv .u64 (min B (node:Int))=min B (node:Int):=by
   obtain ⟨q,hq⟩:=qCp (a:=min B (node:Int)) (by omega)
   rw[hq];exact vG (by omega)
  unfold qes
  rw[hmin,hcv]
  cases hr:rgam l p (min B (node:Int)) with
  | none =>
   rcases quN hr with h1 | h1
   ·rw[if_pos (by simpa using h1),if_pos rfl]
   ·by_cases h2:(fg l p).2.2=0
    ·rw[if_neg (by simp[h2]),if_pos (by simpa using h1)]
    ·rw[if_pos (by simpa using h2),if_pos rfl]
  | some x =>
   obtain ⟨h1,h2⟩:=qtF hr
   have hok:=qaQ hr
   rw[h1]
   simp only
   rw[if_neg (by simp),if_neg (by simp;omega)]
   have e:iconv .i64 x.1=x.1:=yA (by omega) (by omega)
   rw[e]
theorem qqu {F k:Nat}(hF:2000000≤F){l:qFm}(hl:Bit l)(hm:l.length≤8192){B least:Int}(hh:hcE B least (k:Int)=0){n:Nat}(hn:n≤100):∀ (j p:Nat) (out:List (qFm)),n<j+out.length→out.length≤n→p≤l.length→(∀ x∈out,gkc x=0) →
  qa6 F (n:Int) B least (k:Int) (l.length:Int) (pk l) j (out,(p:Int),(out.length:Int))=some (match pkR l B least k (n-out.length) out p with | none=>([],false) | some r=>(r.1,decide (r.2=l.length)))
 | 0,_,_,_,_,_,_=>by omega
 | j+1,p,out,h,ho,hp,hg=>by
  obtain ⟨k1,k2,k',hk,k3,k4⟩:=qfb hh
  have hkk:k=k':=by omega
  subst hkk
  show qe3 F (n:Int) B least (k:Int) (l.length:Int) (pk l) (qa6 F (n:Int) B least (k:Int) (l.length:Int) (pk l) j) out (p:Int) (out.length:Int)=_
  unfold qe3
  by_cases hlt:out.length<n
  ·rw[if_pos (by simp_all),qtw (by omega) hl hm k1 (by omega) hp,show n-out.length=(n-(out.length+1))+1 from by omega]
   simp only[qCm,pkR]
   cases hO:pkO l B out.length p with
   | none=>rfl
   | some o =>
    obtain ⟨o1,o2,o3⟩:=qwT k1.1 hp hO
    simp only[qDl,qCF,if_false,qCm]
    have hfr:gkc (pkF out out.length o.1.toNat)=0:=by
     unfold pkF
     split
     ·grind
     rfl
    have hstep:∀ fr:qFm,fr=pkF out out.length o.1.toNat→((qas F (l.length:Int) (pk l) (o.2:Int) (out.length:Int) fr o.1 least (k:Int)).bind fun x488=>(if ((x488.2.2:Int) != 0) then some (([]:List (qFm)),false) else ((app 2199023255552 out ([x488.1]:List (qFm))).bind fun x494=>qa5 F (qa6 F (n:Int) B least (k:Int) (l.length:Int) (pk l) j) (out.length:Int) x494 x488.2.1)))=some (match (rdl l o.2 (out.length:Int) (pkF out out.length o.1.toNat) o.1 least k).bind fun r=>pkR l B least k (n-(out.length+1)) (out++[r.1]) r.2 with | none=>([],false) | some r=>(r.1,decide (r.2=l.length))):=by
     intro fr hfe
     subst hfe
     rw[qqH hF k3 k4 hl hm (by unfold Nd;omega) o3 (fun _=>hfr) k2]
     simp only[qCm]
     cases hr:rdl l o.2 (out.length:Int) (pkF out out.length o.1.toNat) o.1 least k with
     | none=>rfl
     | some r =>
      obtain ⟨r1,r2,r3,r4,r5⟩:=qqA hl k3 hr
      simp only[qCm]
      rw[if_neg (by simp),ko (by grind)]
      simp only[qCm]
      unfold qa5
      have hl1:(out++[r.1]).length=out.length+1:=by simp
      have hrec:=qqu hF hl hm hh hn j r.2 (out++[r.1]) (by omega) (by omega) r5 (fun x hx=>by
       grind)
      grind [qn]
    grind [zK,qp9,pkF]
  ·rw[if_neg (by simp_all),show n-out.length=0 from by omega]
   grind [qe4,pkR,decide_eq_false]
def pcE (N B least k m:Int)(b:qFm):Int:=if N<0∨100<N then 3 else if hcE B least k≠0 then hcE B least k else chkOf m b
def prd (N B least k m:Int)(b:qFm):List (qFm)×Int :=
 if pcE N B least k m b≠0 then ([],pcE N B least k m b) else
 match pkR (bl b m.toNat) B least k.toNat N.toNat [] 0 with
 | none=>([],1)
 | some r=>if r.2=m.toNat∧pkE r.1 B least k=0∧pk (pkA r.1 B least k.toNat r.1.length).1=b then (r.1,0) else ([],1)
theorem qr0 {least m:Int}(hb:U8s b)(hm:I64 m)(lb:b.length≤9223372036854775807):qfi F N B least k m b=some (pcE N B least k m b):=by
 unfold qfi pcE
 by_cases h1:N<0∨100<N
 ·simp_all
 ·rw[if_neg (by grind),if_neg h1,qd9]
  simp only[qCm]
  by_cases h2:hcE B least k=0
  ·rw[if_neg (by grind),if_neg (by omega),qlq hb hm.1 hm.2 lb]
   rfl
  simp_all
theorem qwP {least m:Int}(hb:U8s b)(h:pcE N B least k m b=0):∃ (n:Nat) (l:qFm),N=(n:Int)∧n≤100∧hcE B least k=0∧Bit l∧l.length≤8192∧m=(l.length:Int)∧b=pk l:=by
 unfold pcE at h
 by_cases h1:N<0∨100<N
 ·omega
 ·rw[if_neg h1] at h
  by_cases h2:hcE B least k=0
  ·rw[if_neg (by omega)] at h
   rcases qlr hb (n:=m) with h3 | ⟨l,hl,hm,e1,e2⟩
   ·omega
   ·exact ⟨N.toNat,l,by omega,by omega,h2,hl,hm,e1,e2⟩
  omega
theorem qwZ (hF:2000000≤F){least m:Int}(hb:U8s b)(hm:I64 m)(lb:b.length≤9223372036854775807):qf8 F N B least k m b=some (prd N B least k m b):=by
 unfold qf8 prd
 rw[qr0 hb hm lb]
 simp only[qCm]
 by_cases h:pcE N B least k m b=0
 ·rw[if_neg (by grind),if_neg (by omega)]
  obtain ⟨n,l,rfl,hn,hh,hl,hlm,rfl,rfl⟩:=qwP hb h
  obtain ⟨k1,k2,k',rfl,k3,k4⟩:=qfb hh
  have hL:=qqu (F:=F) hF hl hlm hh hn F 0 [] (by omega) (qCT _) (qCT _) (by simp)
  have hL':qg8 F (n:Int) B least (k':Int) (l.length:Int) (pk l)=_:=hL
  rw[hL']
  simp only[qCm,qDP,Nat.sub_zero,qCs,qhA hl]
  cases hr:pkR l B least k' n [] 0 with
  | none=>rfl
  | some r =>
   simp only
   by_cases hp:r.2=l.length
   ·rw[decide_eq_true hp,if_neg (by simp),qkp hF]
    simp only[qCm]
    unfold pwr qdt
    by_cases hE:pkE r.1 B least (k':Int)=0
    ·rw[if_neg (by grind)]
     simp only[qCs]
     obtain ⟨_,_,hA⟩:=qhY hE
     rw[qCs] at hA
     grind [peqb,pk]
    simp_all
   simp_all
 simp_all
theorem qxd (hl:Bit l){x:Int×Nat}(h:rgam l p most=some x):x.2=p+(ga x.1.toNat).length:=by
 have hf:=(qtF h).1
 unfold fg at hf
 cases hz:fz (l.drop p) with
 | none=>simp_all
 | some k =>
  rw[hz] at hf
  simp only at hf
  unfold numOf at hf
  by_cases h1:64≤k
  ·simp_all
  ·rw[if_neg h1] at hf
   by_cases h2:l.length<p+k+1+k
   ·simp_all
   ·rw[if_neg h2] at hf
    by_cases h3:1099511627776<bv ((l.drop (p+k+1)).take k)+2^k-1
    ·simp_all
    ·rw[if_neg h3] at hf
     simp only[qEV,and_true] at hf
     have hb:=qsO (qjp (qhO hl (p+k+1)) k)
     grind [quD,qos]
theorem qy7 (hl:Bit l)(hB:0≤B){node:Nat}{o:Int×Nat}(h:pkO l B node p=some o):o.2=p+(pkH B o.1.toNat).length:=by
 grind [pkO,pkH,qxd]
theorem qtr {g:List (qFm)}{i:Nat}(h:i≤g.length)(hr:r≤i):pkF (g++[x]) i r=pkF g i r:=by
 grind [pkF]
theorem qy6 {g:List (qFm)}{least:Int}{k i:Nat}(h:i<g.length):pkN (g++[x]) B least k i=pkN g B least k i:=by
 grind [pkN,qmZ,pkW,qtr]
theorem qtq {g:List (qFm)}{x:qFm}{B least:Int}{k:Nat}:∀ {i:Nat},i≤g.length→pkA (g++[x]) B least k i=pkA g B least k i
 | 0,_=>rfl
 | i+1,h=>by
  unfold pkA
  rw[qtq (i:=i) (by omega),qy6 (by omega)]
theorem qqr {l:qFm}(hl:Bit l){B least:Int}{k:Nat}(hB:0≤B)(hk:1≤k):∀ (m p:Nat) (out:List (qFm)) (r:List (qFm)×Nat),pkR l B least k m out p=some r→p≤l.length→(pkA out B least k out.length).1.length≤p →
  r.1.length=out.length+m∧(pkA r.1 B least k r.1.length).1.length≤r.2
 | 0,p,out,r,h,_,hA=>by
  simp only[pkR,qCy] at h
  grind
 | m+1,p,out,r,h,hp,hA=>by
  unfold pkR at h
  rw[qC6] at h
  obtain ⟨o,ho,h⟩:=h
  rw[qC6] at h
  obtain ⟨d,hd,h⟩:=h
  obtain ⟨o1,o2,o3⟩:=qwT hB hp ho
  have hol:=qy7 hl hB ho
  obtain ⟨d1,d2,d3,d4,d5⟩:=qqA hl hk hd
  have hn1:(out++[d.1]).length=out.length+1:=by simp
  have hmin:=qsP (pkW (out++[d.1]) B least k out.length) (n:=min B.toNat out.length) (r:=o.1.toNat) (by omega)
  have hW:(pkW (out++[d.1]) B least k out.length o.1.toNat).length=(pkH B o.1.toNat).length+(enc (out.length:Int) d.1 (pkF out out.length o.1.toNat) o.1 least k).length:=by
   unfold pkW
   rw[qCt,qtr (qCE _) (by omega),show ((o.1.toNat:Nat):Int)=o.1 from by omega]
   simp
  have hrec:=qqr hl hB hk m d.2 (out++[d.1]) r h d5 (by
   rw[hn1,pkA,qCt,qtq (qCE _)]
   unfold pkN
   omega)
  omega
theorem qBg {g:List (qFm)}{least:Int}(h:pkE g B least k=0):prd (g.length:Int) B least k ((pkA g B least k.toNat g.length).1.length:Int) (pk (pkA g B least k.toNat g.length).1)=(g,0):=by
 obtain ⟨h1,h2,h3⟩:=qhY h
 have hg:=yi.1 h1
 have hgl:=hg.1
 obtain ⟨k1,k2,k',rfl,k3,k4⟩:=qfb h2
 rw[qCs] at h3 ⊢
 have hE:pcE (g.length:Int) B least (k':Int) ((pkA g B least k' g.length).1.length:Int) (pk (pkA g B least k' g.length).1)=0:=by
  grind [pcE,qls]
 have hr:=qoN hg h2 h3 [] g.length 0 (by omega)
 have hr':pkR (pkA g B least k' g.length).1 B least k' g.length [] 0=some (g,(pkA g B least k' g.length).1.length):=by
  rw[qC0] at hr
  exact hr
 unfold prd
 rw[if_neg (by omega)]
 simp only[qCs]
 rw[qhA (qhm _),hr']
 simp_all
theorem qBh {least m:Int}(hb:U8s b)(h:(prd N B least k m b).2=0):∃ g,prd N B least k m b=(g,0)∧pkE g B least k=0∧N=(g.length:Int)∧m=((pkA g B least k.toNat g.length).1.length:Int)∧b=pk (pkA g B least k.toNat g.length).1:=by
 have h0:=h
 unfold prd at h
 by_cases hE:pcE N B least k m b=0
 ·rw[if_neg (by omega)] at h
  obtain ⟨n,l,rfl,hn,hh,hl,hlm,rfl,rfl⟩:=qwP hb hE
  obtain ⟨k1,k2,k',rfl,k3,k4⟩:=qfb hh
  simp only[qCs,qhA hl] at h
  cases hr:pkR l B least k' n [] 0 with
  | none=>simp_all
  | some r =>
   rw[hr] at h
   simp only at h
   split at h
   ·rename_i hc
    obtain ⟨c1,c2,c3⟩:=hc
    obtain ⟨g1,g2,g3⟩:=qhY c2
    rw[qCs] at g3
    have hg:=yi.1 g1
    obtain ⟨b1,b2⟩:=qqr hl k1.1 k3 n 0 [] r hr (qCT _) (by simp[pkA])
    rw[qDP,qDg] at b1
    have hq:l=(pkA r.1 B least k' r.1.length).1++l.drop (pkA r.1 B least k' r.1.length).1.length:=by
     have e1:l.take (pkA r.1 B least k' r.1.length).1.length=(pkA r.1 B least k' r.1.length).1:=by
      grind [qyu,qhA,qhm]
     grind [List.take_append_drop]
    have hr2:=qoN hg hh g3 (l.drop (pkA r.1 B least k' r.1.length).1.length) r.1.length 0 (by omega)
    grind [pkA,prd,qhA]
   omega
 simp_all
def plc (bit:Int):qFm→Nat→Option Nat
 | [],_=>none
 | x::l,i=>if x=bit then (match i with | 0=>some 0 | i+1=>(plc bit l i).map (·+1)) else (plc bit l i).map (·+1)
theorem qlX (bit x:Int)(l:qFm)(i:Nat):plc bit (x::l) i=if x=bit then (match i with | 0=>some 0 | i+1=>(plc bit l i).map (·+1)) else (plc bit l i).map (·+1):=rfl
theorem qoO {F:Nat}{l:qFm}(hl:Bit l)(hm:l.length≤10000)(bit:Int):∀ (k j i:Nat),l.length<k+j→j≤l.length→i<9223372036854775808 →
  (∃ s,plc bit (l.drop j) i=none∧zw F (fun (x31:Int) (x37:Int)=>zi F x31 x37) (l.length:Int) (pk l) bit k ((j:Int),(i:Int))=some (.inl s)) ∨
  (∃ a q,plc bit (l.drop j) i=some a∧zw F (fun (x31:Int) (x37:Int)=>zi F x31 x37) (l.length:Int) (pk l) bit k ((j:Int),(i:Int))=some (.inr (((j+a:Nat):Int),q)))
 | 0,_,_,_,_,_=>by omega
 | k+1,j,i,h,hj,hi=>by
  have e:zw F (fun (x31:Int) (x37:Int)=>zi F x31 x37) (l.length:Int) (pk l) bit (k+1) ((j:Int),(i:Int)) =
   yU F (fun (x31:Int) (x37:Int)=>zi F x31 x37) (l.length:Int) (pk l) bit (zw F (fun (x31:Int) (x37:Int)=>zi F x31 x37) (l.length:Int) (pk l) bit k) (j:Int) (i:Int):=rfl
  rw[e]
  unfold yU
  by_cases hlt:j<l.length
  ·rw[if_pos (by simp_all),qpH hl (by omega) hlt,qCw hlt,qlX]
   simp only[qCm]
   by_cases h1:l[j]=bit
   ·rw[if_pos h1,if_pos (by grind)]
    cases i with
    | zero =>
     right
     exact ⟨0,0,rfl,rfl⟩
    | succ i =>
     have:zi F ((i+1:Nat):Int) (j:Int)=some (.inl (i:Int)):=by
      unfold zi
      rw[if_neg (by grind),qeA (by omega) (by omega),qEf]
     rw[this]
     simp only[qCm,Sum.elim_inl,k9]
     rw[qn (by omega)]
     rcases qoO (F:=F) hl hm bit k (j+1) i (by omega) (by omega) (by omega) with ⟨s,h2,h3⟩ | ⟨a,q,h2,h3⟩
     ·simp_all
     ·right;exact ⟨a+1,q,by simp_all,by grind⟩
   ·rw[if_neg h1,if_neg (by grind)]
    simp only[k9]
    rw[qn (by omega)]
    rcases qoO (F:=F) hl hm bit k (j+1) i (by omega) (by omega) hi with ⟨s,h2,h3⟩ | ⟨a,q,h2,h3⟩
    ·simp_all
    ·right;exact ⟨a+1,q,by simp_all,by grind⟩
  ·rw[if_neg (by simp_all),qCB (by omega)]
   left;exact ⟨_,rfl,rfl⟩
theorem qlW (hF:20000≤F)(hl:Bit l)(hm:l.length≤10000){bit:Int}{i:Nat}(hi:i<9223372036854775808) :
  qaI F (l.length:Int) (pk l) bit (i:Int)=some (match plc bit l i with | none=>-1 | some a=>(a:Int)):=by
 unfold qaI
 simp only[qeu,qCm,qcL]
 rcases qoO (F:=F) hl hm bit F 0 i (by omega) (by omega) hi with ⟨s,h2,h3⟩ | ⟨a,q,h2,h3⟩
 ·rw[qCY] at h2
  rw[show ((0:Nat):Int)=0 from rfl] at h3
  rw[h3,h2];rfl
 ·rw[qCY] at h2
  rw[show ((0:Nat):Int)=0 from rfl] at h3
  rw[h3,h2,qDg];rfl
theorem qpK:Bit []:=by intro x hx;grind
theorem qrK {n m:Nat}(hm:m≤62)(h:n*2^m<9223372036854775808):ishl .i64 (n:Int) (m:Int)=((n*2^m:Nat):Int):=by
 unfold ishl
 have h1:min ((m:Int).toNat) (IntKind.bits .i64)=m:=by grind [IntKind.bits]
 grind [yA]
theorem qrM {n m:Nat}(hm:m≤62):ishr .i64 (n:Int) (m:Int)=((n/2^m:Nat):Int):=by
 grind [qib,IntKind.bits]
theorem qAZ {n m:Nat}(hm:m≤62)(hn:n<9223372036854775808):iand .i64 (n:Int) ((2^m-1:Nat):Int)=((n%2^m:Nat):Int):=by
 unfold iand
 have h1:(qC8 (IntKind.bits .i64) (n:Int))=qCW 64 n:=by rfl
 have h2:(qC8 (IntKind.bits .i64) ((2^m-1:Nat):Int))=qCW 64 (2^m-1):=by rfl
 have h3:2^m≤2^62:=qDd (by decide) hm
 rw[show (2:Nat)^62=4611686018427387904 from by decide] at h3
 rw[h1,h2]
 have h4:(qCW 64 n &&& qCW 64 (2^m-1)).toNat=n%2^m:=by
  grind [Nat.and_two_pow_sub_one_eq_mod]
 show IntKind.wrap .i64 ((qCW 64 n &&& qCW 64 (2^m-1)).toNat:Int)=_
 rw[h4]
 have:=Nat.mod_le n (2^m)
 grind [yA]
theorem qoy {a b:Nat}(h:a*b<9223372036854775808):imul .i64 (a:Int) (b:Int)=((a*b:Nat):Int):=by
 grind [imul,yA]
def wd (n t:Nat):Nat:=if n=0 then 0 else len ((t+1)/n)-1
theorem qzU {n t w:Nat}(hn:n≠0):n*2^(w+1)≤t+1↔w<wd n t:=by
 unfold wd
 rw[if_neg hn]
 have h1:=qgF (x:=(t+1)/n) (k:=w+1)
 have h2:=Nat.le_div_iff_mul_le (x:=2^(w+1)) (y:=t+1) (k:=n) (by omega)
 grind
theorem qq3 {n t:Nat}(ht:t≤1048576):wd n t≤20:=by
 unfold wd
 split
 ·omega
 ·have h1:(t+1)/n≤t+1:=qD2 _ _
  have h2:len ((t+1)/n)≤21:=qgF.2 (by omega)
  omega
theorem qt8 {F n t:Nat}(hn:n≤300)(ht:t≤1048576):∀ (k w:Nat),wd n t<k+w→w≤wd n t →
  qcm F (n:Int) (t:Int) k (w:Int)=some ((wd n t:Nat):Int)
 | 0,_,_,_=>by omega
 | k+1,w,h,hw=>by
  show qd2 F (n:Int) (t:Int) (qcm F (n:Int) (t:Int) k) (w:Int)=_
  unfold qd2
  have h20:=qq3 (n:=n) ht
  by_cases h0:n=0
  ·subst h0
   have:wd 0 t=0:=rfl
   rw[if_neg (by simp)]
   unfold qab
   rw[if_neg (by simp)]
   obtain rfl:w=0:=by omega
   rfl
  ·have hp:2^(w+1)≤2^21:=qDd (by decide) (by omega)
   have hm:n*2^(w+1)≤300*2^21:=qEv hn hp
   rw[show (300:Nat)*2^21=629145600 from by decide] at hm
   have hc:decide ((0:Int)≤((w+1:Nat):Int))=true:=decide_eq_true (by omega)
   rw[if_pos (by grind),qn (by omega),hc]
   simp only[chk,if_true]
   rw[qrK (by omega) (by omega),qn (by omega)]
   unfold qab
   have hs:=qzU (n:=n) (t:=t) (w:=w) h0
   by_cases hlt:w<wd n t
   ·rw[if_pos (by grind),qn (by omega)]
    exact qt8 hn ht k (w+1) (by omega) (by omega)
   ·rw[if_neg (by grind)]
    obtain rfl:w=wd n t:=by omega
    rfl
theorem qq5 {n t:Nat}(hF:20000≤F)(hn:n≤300)(ht:t≤1048576):qdl F (n:Int) (t:Int)=some ((wd n t:Nat):Int):=by
 unfold qdl
 have:=qq3 (n:=n) ht
 exact qt8 hn ht F 0 (by omega) (by omega)
def fk (t:Int):Int→qFm→Int
 | _,[]=>0
 | last,n::l=>if 0≤n∧n≤t then (if n<last then 4 else fk t n l) else 3
def fkc (l:qFm)(t:Int):Int:=if 0≤t∧t≤1048576 then (if 300<l.length then 2 else fk t 0 l) else 3
theorem qp1 {F:Nat}{t:Int}{l:qFm}(hm:l.length≤300):∀ (k i:Nat) (last:Int),l.length<k+i→i≤l.length →
  qeZ F l t k (last,(i:Int))=some (fk t last (l.drop i))
 | 0,_,_,_,_=>by omega
 | k+1,i,last,h,hi=>by
  show qeY F l t (qeZ F l t k) last (i:Int)=_
  unfold qeY
  by_cases hlt:i<l.length
  ·rw[if_pos (by simp_all),qj,qCn hlt,qCw hlt,fk]
   simp only[qCm]
   by_cases h1:0≤l[i]∧l[i]≤t
   ·rw[if_pos h1,if_neg (by simp_all)]
    by_cases h2:l[i]<last
    ·simp_all
    ·rw[if_neg h2,if_neg (by grind),qn (by omega)]
     exact qp1 hm k (i+1) _ (by omega) (by omega)
   grind
  ·rw[if_neg (by simp_all),qCB (by omega)]
   rfl
theorem qm6 (hF:20000≤F):qdg F l t=some (fkc l t):=by
 unfold qdg fkc
 by_cases h1:0≤t∧t≤1048576
 ·rw[if_pos h1,if_neg (by simp_all)]
  by_cases h:300<l.length
  ·grind
  ·rw[if_neg h,if_neg (by grind)]
   exact qp1 (by omega) F 0 0 (by omega) (by omega)
 grind
def Up (t:Nat):Nat→List Nat→Prop
 | _,[]=>True
 | last,n::l=>last≤n∧n≤t∧Up t n l
def lc (l:List Nat):qFm:=l.map fun x:Nat=>(x:Int)
theorem qhT (l:List Nat):(lc l).length=l.length:=by simp[lc]
theorem qz6 {t:Nat}:∀ {l:qFm} {last:Nat},fk (t:Int) (last:Int) l=0↔∃ ns,l=lc ns∧Up t last ns
 | [],last=>by
  constructor
  ·intro _;exact ⟨[],rfl,trivial⟩
  ·intro _;rfl
 | n::l,last=>by
  unfold fk
  by_cases h1:0≤n∧n≤(t:Int)
  ·rw[if_pos h1]
   obtain ⟨n,rfl⟩:=qCp h1.1
   by_cases h2:(n:Int)<(last:Int)
   ·rw[if_pos h2]
    constructor
    ·omega
    ·rintro ⟨ns,e,hu⟩
     cases ns with
     | nil=>simp[lc] at e
     | cons m ns=>simp[lc] at e;have:=hu.1;omega
   ·rw[if_neg h2,qz6]
    constructor
    ·rintro ⟨ns,rfl,hu⟩;exact ⟨n::ns,rfl,by omega,by omega,hu⟩
    ·rintro ⟨ns,e,hu⟩
     cases ns with
     | nil=>simp[lc] at e
     | cons m ns =>
      simp[lc] at e
      obtain ⟨e1,rfl⟩:=e
      obtain rfl:n=m:=by omega
      exact ⟨ns,rfl,hu.2.2⟩
  ·rw[if_neg h1]
   constructor
   ·omega
   ·rintro ⟨ns,e,hu⟩
    cases ns with
    | nil=>simp[lc] at e
    | cons m ns =>
     simp[lc] at e
     have:=hu.2.1
     omega
theorem qkc:fkc l t=0↔∃ (ns:List Nat) (k:Nat),t=k∧k≤1048576∧l=lc ns∧ns.length≤300∧Up k 0 ns:=by
 unfold fkc
 by_cases h1:0≤t∧t≤1048576
 ·rw[if_pos h1]
  obtain ⟨t,rfl⟩:=qCp h1.1
  by_cases h:300<l.length
  ·rw[if_pos h]
   constructor
   ·omega
   ·rintro ⟨ns,k,_,_,rfl,h3,_⟩;rw[qhT] at h;omega
  ·rw[if_neg h]
   have:=qz6 (t:=t) (l:=l) (last:=0)
   rw[show ((0:Nat):Int)=0 from rfl] at this
   rw[this]
   constructor
   ·rintro ⟨ns,rfl,hu⟩;exact ⟨ns,t,rfl,by omega,rfl,by rw[qhT] at h;omega,hu⟩
   grind
 omega
theorem qyb {t:Nat}:∀ {l:List Nat} {a:Nat},Up t a l→∀ x∈l,a≤x∧x≤t
 | [],_,_=>by simp
 | n::l,a,h=>by
  intro x hx
  rcases qCu.1 hx with rfl | hx
  ·exact ⟨h.1,h.2.1⟩
  ·have:=qyb h.2.2 x hx;have:=h.1;omega
def lo' (w:Nat)(l:List Nat):qFm:=l.flatMap fun x=>nb x w
theorem qhU (w x:Nat)(l:List Nat):lo' w (x::l)=nb x w++lo' w l:=rfl
theorem qtj (w:Nat):∀ l:List Nat,(lo' w l).length=l.length*w
 | []=>by simp[lo']
 | x::l=>by rw[qhU,qCt,qdL,qtj w l,qCH,qDm,qFk,qD9]
theorem qk2 (w:Nat):∀ l:List Nat,Bit (lo' w l)
 | []=>by intro x hx;simp[lo'] at hx
 | x::l=>by rw[qhU];exact vt (qlP _ _) (qk2 w l)
def hp (w last:Nat):Nat→List Nat→qFm
 | a,[]=>qCo (last-a) 0
 | a,x::l=>qCo (x/2^w-a) 0++(1::hp w last (x/2^w) l)
theorem qlF (w last:Nat):∀ (a:Nat) (l:List Nat),Bit (hp w last a l)
 | a,[]=>qhe _
 | a,x::l=>by
  rw[hp]
  exact vt (qhe _) (by
   intro y hy
   rcases qCu.1 hy with rfl | hy
   ·omega
   ·exact qlF w last _ l y hy)
theorem qwi {w t:Nat}:∀ {a:Nat} {l:List Nat},Up t a l→(hp w (t/2^w+1) (a/2^w) l).length=l.length+(t/2^w+1-a/2^w)
 | a,[],_=>by simp[hp]
 | a,x::l,h=>by
  have h1:a/2^w≤x/2^w:=qDQ h.1
  have h2:x/2^w≤t/2^w:=qDQ h.2.1
  have:=qwi (w:=w) h.2.2
  grind [hp]
def loF (t:Nat)(l:List Nat):qFm:=lo' (wd l.length t) l
def hiF (t:Nat)(l:List Nat):qFm:=hp (wd l.length t) (t/2^wd l.length t+1) 0 l
theorem qhi (t:Nat)(l:List Nat):(loF t l).length=l.length*wd l.length t:=qtj _ _
theorem qjB {t:Nat}{l:List Nat}(h:Up t 0 l):(hiF t l).length=l.length+(t/2^wd l.length t+1):=by
 have:=qwi (w:=wd l.length t) h
 rw[Nat.zero_div,Nat.sub_zero] at this
 exact this
def Fits (t:Nat)(l:List Nat):Prop:=l.length*wd l.length t≤8192∧l.length+(t/2^wd l.length t+1)≤8192
instance fitsDec (t:Nat) (l:List Nat):Decidable (Fits t l):=inferInstanceAs (Decidable (_∧_))
theorem qxe {F:Nat}(hF:20000≤F){to:Nat}(hto:to≤10000):∀ (k a:Nat) (l:qFm),to<k+a→a≤to→Bit l→l.length+(to-a)≤8192 →
  qbs F (to:Int) k ((l.length:Int),pk l,(a:Int))=some (((l++qCo (to-a) 0).length:Int),pk (l++qCo (to-a) 0),(to:Int))
 | 0,_,_,_,_,_,_=>by omega
 | k+1,a,l,h,ha,hl,hm=>by
  show qbr F (to:Int) (qbs F (to:Int) k) (l.length:Int) (pk l) (a:Int)=_
  unfold qbr
  by_cases hlt:a<to
  ·have hadd:=qiV (F:=F) (n:=0) (w:=1) (l:=l) (by decide) (by omega) hl (by omega) (by decide)
   rw[show ((0:Nat):Int)=0 from rfl,show ((1:Nat):Int)=1 from rfl,show nb 0 1=[0] from rfl] at hadd
   rw[if_pos (by simp_all),hadd]
   simp only[qCm]
   rw[qn (by omega),qxe hF hto k (a+1) (l++[0]) (by omega) (by omega) (vt hl (qhe 1)) (by grind)]
   have e:l++[0]++qCo (to-(a+1)) 0=l++qCo (to-a) 0:=by
    rw[qCv,show to-a=(to-(a+1))+1 from by omega,qDp];rfl
   rw[e]
  ·rw[if_neg (by simp_all),show to-a=0 from by omega]
   grind
theorem qtH (hF:20000≤F){to a:Nat}(ha:a≤to)(hto:to≤10000)(hl:Bit l)(hm:l.length+(to-a)≤8192) :
  vO F (l.length:Int) (pk l) (a:Int) (to:Int)=some (((l++qCo (to-a) 0).length:Int),pk (l++qCo (to-a) 0),(to:Int)):=by
 grind [vO,qxe]
def T8 (t:Nat)(l:List Nat)(e:Bool):Int×Int×Int×Int×qFm×Int×qFm×Bool :=
 ((l.length:Int),(t:Int),(wd l.length t:Int),((loF t l).length:Int),pk (loF t l),((hiF t l).length:Int),pk (hiF t l),e)
theorem qAl {F w t:Nat}(hF:20000≤F)(hw:w≤20)(ht:t≤1048576){l:List Nat}(hlm:l.length≤300)(f1:l.length*w≤8192)(f2:l.length+(t/2^w+1)≤8192):∀ (k i:Nat) (q:Nat) (L H:qFm),l.length<k+i→i≤l.length→Up t q (l.drop i)→Bit L→Bit H→L.length+(l.length-i)*w≤8192→H.length+(l.length-i)+(t/2^w+1-q/2^w)≤8192→q≤t →
  qgr F (lc l) (t:Int) (w:Int) k ((i:Int),(H.length:Int),pk H,((q/2^w:Nat):Int),(L.length:Int),pk L) =
   some ((l.length:Int),(t:Int),(w:Int),((L++lo' w (l.drop i)).length:Int),pk (L++lo' w (l.drop i)),((H++hp w (t/2^w+1) (q/2^w) (l.drop i)).length:Int),pk (H++hp w (t/2^w+1) (q/2^w) (l.drop i)),true)
 | 0,_,_,_,_,_,_,_,_,_,_,_,_=>by omega
 | k+1,i,q,L,H,h,hi,hu,hL,hH,hLm,hHm,hq=>by
  show qgp F (lc l) (t:Int) (w:Int) (qgr F (lc l) (t:Int) (w:Int) k) (i:Int) (H.length:Int) (pk H) ((q/2^w:Nat):Int) (L.length:Int) (pk L)=_
  unfold qgp
  have hqt:q/2^w≤t/2^w:=qDQ hq
  by_cases hlt:i<l.length
  ·rw[qCw hlt] at hu ⊢
   have hx1:=hu.1;have hx2:=hu.2.1;have hx3:=hu.2.2
   have hg:(lc l)[i]?=some ((l[i]:Nat):Int):=by simp[lc,hlt]
   have hc:decide ((0:Int)≤(w:Int))=true:=decide_eq_true (by omega)
   have hp20:2^w≤2^20:=qDd (by decide) hw
   rw[show (2:Nat)^20=1048576 from by decide] at hp20
   have hp0:0<2^w:=Nat.pow_pos (by decide)
   have e1:ishl .i64 1 (w:Int)=((2^w:Nat):Int):=by
    have:=qrK (n:=1) (m:=w) (by omega) (by omega)
    simp_all
   have hd1:q/2^w≤l[i]/2^w:=qDQ hx1
   have hd2:l[i]/2^w≤t/2^w:=qDQ hx2
   have hsplit:(l.length-i)*w=w+(l.length-(i+1))*w:=by
    rw[show l.length-i=(l.length-(i+1))+1 from by omega,qDm,qFk,qD9]
   rw[qhT,if_pos (by simp_all),qj,hg]
   simp only[qCm]
   rw[hc]
   simp only[chk,if_true]
   have hmod:l[i]%2^w<18446744073709551616:=by omega
   rw[e1,qeA (by omega) (by omega),qAZ (by omega) (by omega),vG hmod,qiV hmod (by omega) hL (by omega) (by omega),qwA (qCE _)]
   simp only[qCm]
   rw[qrM (by omega),qtH hF hd1 (by omega) hH (by omega)]
   simp only[qCm]
   have hadd:=qiV (F:=F) (n:=1) (w:=1) (l:=H++qCo (l[i]/2^w-q/2^w) 0) (by decide) (by omega) (vt hH (qhe _)) (by grind) (by decide)
   rw[show ((1:Nat):Int)=1 from rfl,show nb 1 1=[1] from rfl] at hadd
   rw[hadd]
   simp only[qCm]
   rw[qn (by omega)]
   rw[qAl hF hw ht hlm f1 f2 k (i+1) l[i] (L++nb l[i] w) (H++qCo (l[i]/2^w-q/2^w) 0++[1]) (by omega) (by omega) hx3 (vt hL (qlP _ _)) (vt (vt hH (qhe _)) qsL) (by grind [qdL]) (by grind) hx2]
   grind [hp,qhU]
  ·rw[qhT,if_neg (by simp_all),qCB (by omega)]
   unfold qgq
   rw[qrM (by omega),qn (by omega),qtH hF (by omega) (by omega) hH (by omega)]
   simp[lo',hp,qhT]
theorem qs6 {t:Nat}(hF:20000≤F)(ht:t≤1048576){l:List Nat}(hlm:l.length≤300)(hu:Up t 0 l) :
  qfF F (lc l) (t:Int)=some (if Fits t l then T8 t l true else (0,0,0,0,[],0,[],false)):=by
 unfold qfF
 have hw:=qq3 (n:=l.length) ht
 have hc:decide ((0:Int)≤((wd l.length t:Nat):Int))=true:=decide_eq_true (by omega)
 have hdt:t/2^wd l.length t≤t:=qD2 _ _
 have hmul:l.length*wd l.length t≤300*20:=qEv hlm hw
 rw[qhT,qq5 hF hlm ht]
 simp only[qCm]
 rw[hc]
 simp only[chk,if_true]
 rw[qoy (by omega),qrM (by omega),qn (by omega),qcv (by omega)]
 by_cases hf:Fits t l
 ·rw[if_neg (by have h1:=hf.1;have h2:=hf.2;grind),if_pos hf]
  have:=qAl (F:=F) hF hw ht hlm hf.1 hf.2 F 0 0 [] [] (by omega) (by omega) (by simp_all) qpK qpK (by grind) (by simp;exact hf.2) (by omega)
  rw[qCY,qCM,qCM,Nat.zero_div] at this
  exact this
 ·rw[if_pos (by unfold Fits at hf;grind),if_neg hf]
def nl (l:qFm):List Nat:=l.map Int.toNat
theorem qwD (l:List Nat):nl (lc l)=l:=by
 induction l with
 | nil=>rfl
 | cons x l ih=>grind [nl,lc]
abbrev F8:=Int×Int×Int×Int×qFm×Int×qFm×Int
def fz8 (e:Int):F8:=(0,0,0,0,[],0,[],e)
def fo8 (t:Nat)(l:List Nat):F8:=((l.length:Int),(t:Int),(wd l.length t:Int),((loF t l).length:Int),pk (loF t l),((hiF t l).length:Int),pk (hiF t l),0)
def fw (l:qFm)(t:Int):F8:=if fkc l t≠0 then fz8 (fkc l t) else if Fits t.toNat (nl l) then fo8 t.toNat (nl l) else fz8 8
theorem qv7 (h:fkc l t≠0):fw l t=fz8 (fkc l t):=by grind [fw]
theorem qoq {l:List Nat}{t:Nat}(ht:t≤1048576)(hlm:l.length≤300)(hu:Up t 0 l):fkc (lc l) (t:Int)=0∧fw (lc l) (t:Int)=if Fits t l then fo8 t l else fz8 8:=by
 have h:fkc (lc l) (t:Int)=0:=qkc.2 ⟨l,t,rfl,ht,rfl,hlm,hu⟩
 grind [fw,qwD]
theorem quy (hF:20000≤F):qdf F l t=some (fw l t):=by
 unfold qdf
 rw[qm6 hF]
 simp only[qCm]
 by_cases h:fkc l t=0
 ·obtain ⟨ns,k,rfl,hk,rfl,hm,hu⟩:=qkc.1 h
  rw[(qoq hk hm hu).2,h,if_neg (by simp),qs6 hF hk hm hu]
  simp only[qCm]
  by_cases hf:Fits k ns
  ·rw[if_pos hf,if_pos hf];rfl
  ·rw[if_neg hf,if_neg hf];rfl
 ·rw[if_pos (by grind),qv7 h];rfl
theorem qtv (k:Nat)(r:qFm)(i:Nat):plc 1 (qCo k 0++r) i=(plc 1 r i).map (·+k):=by
 induction k with
 | zero=>simp
 | succ k ih =>
  rw[qDp,qDt,qlX,if_neg (by decide),ih,Option.map_map]
  congr 1
theorem qwX {w last:Nat}:∀ {l:List Nat} {a i:Nat},(∀ x∈l,a≤x/2^w)→(∀ j x,l[j]?=some x→∀ y∈l.drop (j+1),x/2^w≤y/2^w) →
  plc 1 (hp w last a l) i=(l[i]?).map fun x=>x/2^w-a+i
 | [],a,i,_,_=>by
  have:=qtv (last-a) [] i
  rw[qC0] at this
  rw[hp,this];rfl
 | x::l,a,i,h,hs=>by
  have hx:=h x qCC
  rw[hp,qtv,qlX,if_pos rfl]
  cases i with
  | zero=>simp
  | succ i =>
   simp only
   have h0:=hs 0 x rfl
   rw[qEb,qCY] at h0
   rw[qwX (a:=x/2^w) h0 (fun j y hj=>by
    have:=hs (j+1) y (by grind)
    simp_all)]
   simp only[List.getElem?_cons_succ,Option.map_map]
   cases hl:l[i]? with
   | none=>rfl
   | some y =>
    have:=h0 y (qCq hl)
    grind
theorem qpi {t w:Nat}:∀ {l:List Nat} {a:Nat},Up t a l→∀ j x,l[j]?=some x→∀ y∈l.drop (j+1),x/2^w≤y/2^w
 | [],_,_,j,x,h=>by simp
 | n::l,a,h,0,x,hx=>by
  simp at hx;subst hx
  intro y hy
  rw[qEb,qCY] at hy
  exact qDQ (qyb h.2.2 y hy).1
 | n::l,a,h,j+1,x,hx=>by
  intro y hy
  rw[qEb] at hy
  exact qpi h.2.2 j x (by grind) y hy
theorem qtu {t:Nat}{l:List Nat}(h:Up t 0 l)(i:Nat):plc 1 (hiF t l) i=(l[i]?).map fun x=>x/2^wd l.length t+i:=by
 unfold hiF
 rw[qwX (fun x _=>qCT _) (qpi h)]
 simp
theorem qrS {w:Nat}:∀ {l:List Nat} {i x:Nat},l[i]?=some x→((lo' w l).drop (i*w)).take w=nb x w
 | [],i,x,h=>by grind
 | y::l,0,x,h=>by
  simp_all [qhU,qdL]
 | y::l,i+1,x,h=>by
  rw[qhU,qDm,qFk,qD9,← List.drop_drop,List.drop_left' (qdL _ _)]
  exact qrS (by grind)
theorem qBX {a b m:Nat}(ha:a<2^m)(hb:b%2^m=0)(h:a+b<9223372036854775808):ior .i64 (b:Int) (a:Int)=((b+a:Nat):Int):=by
 unfold ior
 have h1:(qC8 (IntKind.bits .i64) (b:Int))=qCW 64 b:=by rfl
 have h2:(qC8 (IntKind.bits .i64) (a:Int))=qCW 64 a:=by rfl
 rw[h1,h2]
 have h3:b ||| a=b+a:=by
  have hy2:b=2^m*(b/2^m):=by grind [qEq]
  grind [Nat.two_pow_add_eq_or_of_lt]
 have h4:(qCW 64 b ||| qCW 64 a).toNat=b+a:=by
  grind
 show IntKind.wrap .i64 ((qCW 64 b ||| qCW 64 a).toNat:Int)=_
 grind [yA]
theorem qv0 {t i x:Nat}(hF:20000≤F)(ht:t≤1048576){l:List Nat}(hlm:l.length≤300)(hu:Up t 0 l)(hf:Fits t l)(hx:l[i]?=some x) :
  qcl F (l.length:Int) (t:Int) (wd l.length t:Int) ((loF t l).length:Int) (pk (loF t l)) ((hiF t l).length:Int) (pk (hiF t l)) (i:Int)=some (x:Int):=by
 unfold qcl
 have hw:=qq3 (n:=l.length) ht
 have hi:i<l.length:=(List.getElem?_eq_some_iff.1 hx).1
 have hL:(loF t l).length≤8192:=by rw[qhi];exact hf.1
 have hH:(hiF t l).length≤8192:=by rw[qjB hu];exact hf.2
 have hxt:=(qyb hu x (qCq hx)).2
 have hmul:i*wd l.length t+wd l.length t≤(loF t l).length:=by
  rw[qhi,← Nat.succ_mul];exact qCR _ hi
 rw[qlW hF (l:=hiF t l) (qlF _ _ _ _) (by omega) (by omega),qtu hu,hx]
 simp only[qDk,qCm]
 have hdx:x/2^wd l.length t≤x:=qD2 _ _
 have hz:0≤x/2^wd l.length t:=qCT _
 rw[qoy (by omega),qho (l:=loF t l) (by omega) (qk2 _ _) hL (by omega) (by omega),if_pos hmul]
 simp only[qCm]
 have hc:decide ((0:Int)≤((wd l.length t:Nat):Int))=true:=decide_eq_true (by omega)
 rw[hc]
 simp only[chk,if_true,lett]
 have hg:((loF t l).drop (i*wd l.length t)).take (wd l.length t)=nb x (wd l.length t):=qrS hx
 have hp20:2^wd l.length t≤2^20:=qDd (by decide) hw
 rw[show (2:Nat)^20=1048576 from by decide] at hp20
 have hml:=Nat.mod_lt x (show 0<2^wd l.length t from Nat.pow_pos (by decide))
 have hdm:=qEq x (2^wd l.length t)
 have hdm2:x/2^wd l.length t*2^wd l.length t≤x:=Nat.div_mul_le_self _ _
 rw[hg,qlo,qrN (by omega) (by omega),qEf,qrK (by omega) (by omega),qeO (by omega),qBX (m:=wd l.length t) hml (Nat.mul_mod_left _ _) (by omega)]
 grind
theorem qkm {F:Nat}{l:qFm}(hl:Bit l)(hm:l.length≤10000)(bit:Int):∀ (k j c:Nat),l.length<k+j→j≤l.length→1≤c→c+(l.length-j)≤100000 →
  ∃ s,zw F (fun (x31:Int) (x37:Int)=>zi F x31 x37) (l.length:Int) (pk l) bit k ((j:Int),-(c:Int))=some (.inl s)
 | 0,_,_,_,_,_,_=>by omega
 | k+1,j,c,h,hj,hc,hcm=>by
  have e:zw F (fun (x31:Int) (x37:Int)=>zi F x31 x37) (l.length:Int) (pk l) bit (k+1) ((j:Int),-(c:Int)) =
   yU F (fun (x31:Int) (x37:Int)=>zi F x31 x37) (l.length:Int) (pk l) bit (zw F (fun (x31:Int) (x37:Int)=>zi F x31 x37) (l.length:Int) (pk l) bit k) (j:Int) (-(c:Int)):=rfl
  rw[e]
  unfold yU
  by_cases hlt:j<l.length
  ·rw[if_pos (by simp_all),qpH hl (by omega) hlt]
   simp only[qCm]
   have hr:zi F (-(c:Int)) (j:Int)=some (.inl (-((c+1:Nat):Int))):=by
    grind [zi,zK]
   by_cases h1:l[j]=bit
   ·rw[if_pos (by grind),hr]
    simp only[qCm,Sum.elim_inl,k9]
    rw[qn (by omega)]
    exact qkm hl hm bit k (j+1) (c+1) (by omega) (by omega) (by omega) (by omega)
   ·rw[if_neg (by grind)]
    simp only[k9]
    rw[qn (by omega)]
    exact qkm hl hm bit k (j+1) c (by omega) (by omega) hc (by omega)
  ·rw[if_neg (by simp_all)]
   simp
theorem qwW (hF:20000≤F)(hl:Bit l)(hm:l.length≤10000){bit:Int}:qaI F (l.length:Int) (pk l) bit (-1)=some (-1):=by
 unfold qaI
 simp only[qeu,qCm,qcL]
 obtain ⟨s,hs⟩:=qkm (F:=F) hl hm bit F 0 1 (by omega) (by omega) (by omega) (by omega)
 simp_all
theorem qv1 {F:Nat}{xs ys:qFm}(he:xs.length=ys.length)(hm:xs.length≤9223372036854775807):∀ (k i:Nat),xs.length<k+i→i≤xs.length→kB F xs ys k (i:Int)=some (decide (xs.drop i=ys.drop i))
 | 0,_,_,_=>by omega
 | k+1,i,h,hi=>by
  show kA F xs ys (kB F xs ys k) (i:Int)=_
  unfold kA
  by_cases hlt:i<xs.length
  ·have hlt':i<ys.length:=by omega
   rw[if_pos (by simp_all),qj,qCn hlt,qj,qCn hlt']
   simp only[qCm]
   rw[qCw hlt,qCw hlt']
   by_cases hc:xs[i]=ys[i]
   ·rw[if_neg (by grind),qn (by omega),qv1 he hm k (i+1) (by omega) (by omega)]
    congr 1
    grind
   grind [List.cons.inj]
  ·rw[if_neg (by simp_all),qCB (by omega),qCB (by omega)]
   rfl
theorem feqb {xs ys:qFm}(hF:xs.length<F)(hm:xs.length≤9223372036854775807):q9 F xs ys=some (decide (xs=ys)):=by
 unfold q9
 by_cases h:xs.length=ys.length
 ·rw[if_neg (by grind)]
  have:=qv1 (F:=F) h hm F 0 (by omega) (qCT _)
  simp_all
 ·rw[if_pos (by grind),decide_eq_false (fun e=>h (by rw[e]))]
theorem qp7 {n m:Int}{xs ys:qFm}(hF:xs.length<F)(hm:xs.length≤9223372036854775807):qeJ F n xs m ys=some (decide (n=m∧xs=ys)):=by
 grind [qeJ,feqb,qdk]
def FWr (t:Nat)(ns:List Nat)(lw:Int)(lb:qFm)(hw:Int)(hb:qFm):Prop :=
 ns.length≤300∧Up t 0 ns∧Fits t ns∧lw=((loF t ns).length:Int)∧lb=pk (loF t ns)∧hw=((hiF t ns).length:Int)∧hb=pk (hiF t ns)
theorem qB0 {t:Nat}(hF:20000≤F)(ht:t≤1048576){out:qFm} :
  (∃ ns,out=lc ns∧FWr t ns lw lb hw hb∧vm F (t:Int) lw lb hw hb out=some (out,0)) ∨
  ((¬ ∃ ns,out=lc ns∧FWr t ns lw lb hw hb)∧vm F (t:Int) lw lb hw hb out=some ([],1)):=by
 unfold vm
 rw[qm6 hF]
 simp only[qCm]
 by_cases h:fkc out (t:Int)=0
 ·obtain ⟨ns,k,e,hk,rfl,hm,hu⟩:=qkc.1 h
  obtain rfl:t=k:=by omega
  rw[h,if_neg (by simp),qs6 hF hk hm hu]
  simp only[qCm]
  have huniq:∀ ns',lc ns=lc ns'→ns=ns':=fun ns' e=>by have:=congrArg nl e;grind [qwD]
  by_cases hf:Fits t ns
  ·have hL:(loF t ns).length≤8192:=by rw[qhi];exact hf.1
   have hH:(hiF t ns).length≤8192:=by rw[qjB hu];exact hf.2
   have hpL:=qqs hL
   have hpH:=qqs hH
   rw[if_pos hf]
   simp only[T8,qDl,qCF,if_false]
   rw[qp7 (by omega) (by omega)]
   simp only[qCm]
   by_cases h1:((loF t ns).length:Int)=lw∧pk (loF t ns)=lb
   ·rw[decide_eq_true h1]
    simp only[qDl,qbA,qCF,if_false]
    rw[qp7 (by omega) (by omega)]
    simp only[qCm]
    by_cases h2:((hiF t ns).length:Int)=hw∧pk (hiF t ns)=hb
    ·rw[decide_eq_true h2]
     left
     exact ⟨ns,rfl,⟨hm,hu,hf,h1.1.symm,h1.2.symm,h2.1.symm,h2.2.symm⟩,rfl⟩
    ·rw[decide_eq_false h2]
     right
     refine ⟨?_,rfl⟩
     rintro ⟨ns',e1,w⟩
     rw[← huniq ns' e1] at w
     exact h2 ⟨w.2.2.2.2.2.1.symm,w.2.2.2.2.2.2.symm⟩
   ·rw[decide_eq_false h1]
    right
    refine ⟨?_,rfl⟩
    rintro ⟨ns',e1,w⟩
    rw[← huniq ns' e1] at w
    exact h1 ⟨w.2.2.2.1.symm,w.2.2.2.2.1.symm⟩
  ·rw[if_neg hf]
   right
   refine ⟨?_,rfl⟩
   rintro ⟨ns',e1,w⟩
   rw[← huniq ns' e1] at w
   exact hf w.2.2.1
 ·rw[if_pos (by grind)]
  right
  refine ⟨?_,rfl⟩
  rintro ⟨ns,rfl,w⟩
  exact h (qkc.2 ⟨ns,t,rfl,ht,rfl,w.1,w.2.1⟩)
def Good (l:List Nat)(n t w lw:Int)(lb:qFm)(hw:Int)(hb:qFm):Prop :=
 ∃ k:Nat,t=k∧k≤1048576∧n=(l.length:Int)∧w=((wd l.length k:Nat):Int)∧FWr k l lw lb hw hb
def Rg (n t:Int):Prop:=0≤n∧n≤300∧0≤t∧t≤1048576
instance rgDec (n t:Int):Decidable (Rg n t):=inferInstanceAs (Decidable (_∧_))
theorem qyP {l:List Nat}{n w:Int}(h:Good l n t w lw lb hw hb):Rg n t:=by
 obtain ⟨k,rfl,hk,rfl,_,h1,_⟩:=h
 exact ⟨by omega,by omega,by omega,by omega⟩
theorem qwG {F t n w:Nat}{lw hw:Int}{lb hb:qFm}(f:Nat→Int)(hn:n≤300)(hat:∀ i,i<n→qcl F (n:Int) (t:Int) (w:Int) lw lb hw hb (i:Int)=some (f i)):∀ (k i:Nat),n<k+i→i≤n →
  qdj F (n:Int) (t:Int) (w:Int) lw lb hw hb k ((qCL i).map f,(i:Int))=vm F (t:Int) lw lb hw hb ((qCL n).map f)
 | 0,_,_,_=>by omega
 | k+1,i,h,hi=>by
  show qdh F (n:Int) (t:Int) (w:Int) lw lb hw hb (qdj F (n:Int) (t:Int) (w:Int) lw lb hw hb k) ((qCL i).map f) (i:Int)=_
  unfold qdh
  by_cases hlt:i<n
  ·rw[if_pos (by simp_all),hat i hlt]
   simp only[qCm]
   rw[ko (by grind),qn (by omega)]
   simp only[qCm]
   have e:(qCL i).map f++[f i]=(qCL (i+1)).map f:=by grind [qEH]
   rw[e]
   exact qwG f hn hat k (i+1) (by omega) (by omega)
  grind
theorem qmQ (hF:20000≤F){n w:Int}(ul:U8s lb)(uh:U8s hb)(il:I64 lw)(ih:I64 hw)(ll:lb.length≤9223372036854775807)(lh:hb.length≤9223372036854775807) :
  (∃ l,Good l n t w lw lb hw hb∧qaa F n t w lw lb hw hb=some (lc l,0)) ∨
  ((¬ ∃ l,Good l n t w lw lb hw hb)∧qaa F n t w lw lb hw hb=some ([],if Rg n t then 1 else 3)):=by
 unfold qaa
 by_cases hr:Rg n t
 ·obtain ⟨n,rfl⟩:=qCp hr.1
  obtain ⟨t,rfl⟩:=qCp hr.2.2.1
  have hn:n≤300:=by have:=hr.2.1;omega
  have ht:t≤1048576:=by have:=hr.2.2.2;omega
  have hw20:=qq3 (n:=n) ht
  rw[if_neg (by grind),if_pos hr,qq5 hF hn ht]
  simp only[qCm]
  by_cases hw1:w=((wd n t:Nat):Int)
  ·subst hw1
   rw[if_neg (by simp),qlq ul il.1 il.2 ll]
   simp only[qCm]
   rcases qlr ul (n:=lw) with h1 | ⟨L,hL,hLm,rfl,rfl⟩
   ·right
    refine ⟨?_,by rw[if_pos (by grind)];rfl⟩
    rintro ⟨l,k,e,hk,e2,_,g1,g2,g3,rfl,rfl,_⟩
    exact h1 (qls (by rw[qhi];exact g3.1))
   rw[qls hLm,if_neg (by simp),qlq uh ih.1 ih.2 lh]
   simp only[qCm]
   rcases qlr uh (n:=hw) with h1 | ⟨H,hH,hHm,rfl,rfl⟩
   ·right
    refine ⟨?_,by rw[if_pos (by grind)];rfl⟩
    rintro ⟨l,k,e,hk,e2,_,g1,g2,g3,_,_,rfl,rfl⟩
    exact h1 (qls (by rw[qjB g2];exact g3.2))
   have hmul:n*wd n t≤300*20:=qEv hn hw20
   rw[qls hHm,if_neg (by simp),qoy (by omega)]
   by_cases hl1:L.length=n*wd n t
   ·rw[if_neg (by simp_all)]
    have hfin:(n=0∨∃ q,plc 1 H (n-1)=some q) →
      (∃ l,Good l (n:Int) (t:Int) ((wd n t:Nat):Int) (L.length:Int) (pk L) (H.length:Int) (pk H)∧zV F (n:Int) (t:Int) ((wd n t:Nat):Int) (L.length:Int) (pk L) (H.length:Int) (pk H) false=some (lc l,0)) ∨
      ((¬ ∃ l,Good l (n:Int) (t:Int) ((wd n t:Nat):Int) (L.length:Int) (pk L) (H.length:Int) (pk H))∧zV F (n:Int) (t:Int) ((wd n t:Nat):Int) (L.length:Int) (pk L) (H.length:Int) (pk H) false=some ([],1)):=by
     intro hpl
     unfold zV
     rw[if_neg (by simp)]
     have hat:∃ f:Nat→Int,∀ i,i<n→qcl F (n:Int) (t:Int) ((wd n t:Nat):Int) (L.length:Int) (pk L) (H.length:Int) (pk H) (i:Int)=some (f i):=by
      have h1:∀ i,∃ v:Int,i<n→qcl F (n:Int) (t:Int) ((wd n t:Nat):Int) (L.length:Int) (pk L) (H.length:Int) (pk H) (i:Int)=some v:=by
       intro i
       by_cases hi:i<n
       ·unfold qcl
        have hm2:i*wd n t+wd n t≤L.length:=by rw[hl1,← Nat.succ_mul];exact qCR _ hi
        have hc:decide ((0:Int)≤((wd n t:Nat):Int))=true:=decide_eq_true (by omega)
        rw[qlW hF hH (by omega) (by omega)]
        simp only[qCm]
        rw[qoy (by omega),qho (by omega) hL hLm (by omega) (by omega)]
        simp only[qCm]
        rw[hc]
        simp only[chk,if_true,lett]
        simp_all
       ·exact ⟨0,fun h=>absurd h hi⟩
      exact ⟨fun i=>Classical.choose (h1 i),fun i hi=>Classical.choose_spec (h1 i) hi⟩
     obtain ⟨f,hat⟩:=hat
     have hl9:=qwG (F:=F) (t:=t) (n:=n) (w:=wd n t) f hn hat F 0 (by omega) (by omega)
     rw[show (qCL 0).map f=[] from rfl,show ((0:Nat):Int)=0 from rfl] at hl9
     rw[hl9]
     rcases qB0 (F:=F) (t:=t) hF ht (lw:=(L.length:Int)) (lb:=pk L) (hw:=(H.length:Int)) (hb:=pk H) (out:=(qCL n).map f) with ⟨ns,e,w,hM⟩ | ⟨hno,hM⟩
     ·have hnl:ns.length=n:=by have:=congrArg List.length e;grind [qhT]
      left
      exact ⟨ns,⟨t,rfl,ht,by omega,by grind,w⟩,by grind⟩
     ·right
      refine ⟨?_,hM⟩
      rintro ⟨l,k,e1,hk,e2,e3,w⟩
      obtain rfl:t=k:=by omega
      have hnl:n=l.length:=by omega
      apply hno
      refine ⟨l,?_,w⟩
      obtain ⟨w1,w2,w3,w4,w5,w6,w7⟩:=w
      apply List.ext_getElem?
      grind [qv0,lc]
    have hnoform:n≠0→plc 1 H (n-1)=none→¬ ∃ l,Good l (n:Int) (t:Int) ((wd n t:Nat):Int) (L.length:Int) (pk L) (H.length:Int) (pk H):=by
     rintro h0 hp ⟨l,k,e1,hk,e2,e3,w1,w2,w3,w4,w5,w6,w7⟩
     obtain rfl:t=k:=by omega
     grind [hiF,qwV,qlF,qtu]
    by_cases h0:n=0
    ·subst h0
     have:isub .i64 ((0:Nat):Int) 1=-1:=by decide
     rw[this,qwW hF hH (by omega)]
     simp_all
    ·rw[qeA (by omega) (by omega),qlW hF hH (by omega) (by omega)]
     simp only[qCm]
     cases hp:plc 1 H (n-1) with
     | none =>
      right
      refine ⟨hnoform h0 hp,?_⟩
      simp only
      rw[if_pos (by simp),decide_eq_true (show (0:Int)<(n:Int) by omega)]
      rfl
     | some q =>
      grind
   ·right
    refine ⟨?_,by rw[if_pos (by grind)];rfl⟩
    rintro ⟨l,k,e1,hk,e2,e3,w1,w2,w3,w4,_⟩
    obtain rfl:t=k:=by omega
    grind [qhi]
  ·right
   refine ⟨?_,by rw[if_pos (by simp_all)];rfl⟩
   rintro ⟨l,k,e1,hk,e2,e3,_⟩
   grind
 ·right
  refine ⟨fun ⟨l,h⟩=>hr (qyP h),?_⟩
  rw[if_pos (by unfold Rg at hr;grind),if_neg hr]
theorem qA1 {l:List Nat}{i:Nat}(hi:i<l.length):(lc l)[i]?=some ((l[i]:Nat):Int):=by simp[lc,hi]
def rdn (w:Nat)(L:qFm):qFm→Nat→Nat→Nat→List Nat
 | [],_,_,_=>[]
 | _::_,_,0,_=>[]
 | b::H,h,m+1,k=>if b=0 then rdn w L H (h+1) (m+1) k else (h*2^w+bv ((L.drop (k*w)).take w))::rdn w L H h m (k+1)
theorem qB5 {w:Nat}{X:qFm}{h k:Nat}:rdn w L X h 0 k=[]:=by cases X <;> rfl
theorem qtE {w:Nat}{L X:qFm}{m k:Nat}:∀ {c h:Nat},rdn w L (qCo c 0++X) h (m+1) k=rdn w L X (h+c) (m+1) k
 | 0,h=>by simp
 | c+1,h=>by
  rw[qDp,qDt,rdn,if_pos rfl,qtE,show h+1+c=h+(c+1) from by omega]
theorem qw8 {w last:Nat}{L:qFm}:∀ {l:List Nat} {a k:Nat},(∀ x∈l,a≤x/2^w)→(∀ j x,l[j]?=some x→∀ y∈l.drop (j+1),x/2^w≤y/2^w) →
  (∀ i x,l[i]?=some x→(L.drop ((k+i)*w)).take w=nb x w)→rdn w L (hp w last a l) a l.length k=l
 | [],a,k,_,_,_=>qB5
 | x::l,a,k,h,hs,hL=>by
  have hx:=h x qCC
  have h0:=hs 0 x rfl
  rw[qEb,qCY] at h0
  have h1:=hL 0 x rfl
  rw[Nat.add_zero] at h1
  have ih:=qw8 (w:=w) (last:=last) (L:=L) (l:=l) (a:=x/2^w) (k:=k+1) h0 (fun j y hj=>by
    have:=hs (j+1) y (by grind)
    simp_all) (fun i y hy=>by
    have:=hL (i+1) y (by grind)
    grind)
  grind [qEq,hp,qtE,rdn,qlo]
theorem qv8:(∃ (ns:List Nat) (k:Nat),l=lc ns∧t=k∧k≤1048576∧ns.length≤300∧Up k 0 ns∧Fits k ns∧fw l t=fo8 k ns)∨(∃ e:Int,e≠0∧fw l t=fz8 e∧¬ ∃ (ns:List Nat) (k:Nat),l=lc ns∧t=k∧k≤1048576∧ns.length≤300∧Up k 0 ns∧Fits k ns):=by
 by_cases h:fkc l t=0
 ·obtain ⟨ns,k,rfl,hk,rfl,hm,hu⟩:=qkc.1 h
  have hf2:=(qoq hk hm hu).2
  by_cases hf:Fits k ns
  ·grind
  ·right
   refine ⟨8,by decide,by simp_all,?_⟩
   rintro ⟨ns',k',e1,e2,_,_,_,f⟩
   obtain rfl:k=k':=by omega
   have:=congrArg nl e1
   grind [qwD]
 ·right
  refine ⟨fkc l t,h,qv7 h,?_⟩
  grind [qkc]
theorem qwf {l:List Nat}{t:Nat}(hu:Up t 0 l):rdn (wd l.length t) (loF t l) (hiF t l) 0 l.length 0=l:=by
 unfold hiF
 refine qw8 (fun x _=>qCT _) (qpi hu) (fun i x hx=>?_)
 rw[qDg]
 exact qrS hx
theorem quA {l l':List Nat}{n w:Int}(g:Good l n t w lw lb hw hb)(g':Good l' n t w lw lb hw hb):l=l':=by
 obtain ⟨k,rfl,hk,a1,a2,a3,a4,a5,a6,a7,a8,a9⟩:=g
 obtain ⟨k',e,hk',b1,b2,b3,b4,b5,b6,b7,b8,b9⟩:=g'
 obtain rfl:k=k':=by omega
 grind [loF,qwV,qk2,hiF,qlF,qwf]
def gf (l:List Nat)(i:Int):Int×Int:=match (if 0≤i then l[i.toNat]? else none) with | none=>(0,3) | some x=>((x:Int),0)
structure Bd (lw:Int) (lb:qFm) (hw:Int) (hb:qFm):Prop where
 ul:U8s lb
 uh:U8s hb
 il:I64 lw
 ih:I64 hw
 ll:lb.length≤9223372036854775807
 lh:hb.length≤9223372036854775807
theorem qwF {n:Int}{w:Int}{l:List Nat}(hF:20000≤F)(b:Bd lw lb hw hb)(g:Good l n t w lw lb hw hb):qaa F n t w lw lb hw hb=some (lc l,0):=by
 rcases qmQ (F:=F) (n:=n) (t:=t) (w:=w) hF b.ul b.uh b.il b.ih b.ll b.lh with ⟨k,g',h⟩ | ⟨h,_⟩
 ·rw[h,quA g' g]
 ·exact absurd ⟨l,g⟩ h
theorem qvC {n:Int}{w:Int}{l:List Nat}(hF:20000≤F)(b:Bd lw lb hw hb)(g:Good l n t w lw lb hw hb):qff F n t w lw lb hw hb=some 0:=by
 unfold qff;rw[qwF hF b g];rfl
theorem qwa {n:Int}{w:Int}{l:List Nat}(hF:20000≤F)(b:Bd lw lb hw hb)(g:Good l n t w lw lb hw hb):qfE F n t w lw lb hw hb i=some (gf l i):=by
 unfold qfE
 rw[qvC hF b g]
 simp only[qCm]
 rw[if_pos (by rfl)]
 obtain ⟨k,rfl,hk,rfl,rfl,w1,w2,w3,rfl,rfl,rfl,rfl⟩:=g
 unfold gf qeo
 by_cases hi:0≤i∧i<(l.length:Int)
 ·obtain ⟨i,rfl⟩:=qCp hi.1
  grind [qen,qv0]
 ·rw[if_pos (by grind)]
  have:(if 0≤i then l[i.toNat]? else none)=none:=by
   simp_all
  rw[this];rfl
theorem qyO {l:List Nat}{k:Nat}(hk:k≤1048576)(hm:l.length≤300)(hu:Up k 0 l)(hf:Fits k l):Good l (l.length:Int) (k:Int) ((wd l.length k:Nat):Int) ((loF k l).length:Int) (pk (loF k l)) ((hiF k l).length:Int) (pk (hiF k l)) :=
 ⟨k,rfl,hk,rfl,rfl,hm,hu,hf,rfl,rfl,rfl,rfl⟩
theorem qBR {l:List Nat}{k:Nat}(hu:Up k 0 l)(hf:Fits k l):Bd ((loF k l).length:Int) (pk (loF k l)) ((hiF k l).length:Int) (pk (hiF k l)):=by
 have hL:(loF k l).length≤8192:=by rw[qhi];exact hf.1
 have hH:(hiF k l).length≤8192:=by rw[qjB hu];exact hf.2
 exact ⟨qiA (qk2 _ _),qiA (qlF _ _ _ _),⟨by omega,by omega⟩,⟨by omega,by omega⟩,qtt hL,qtt hH⟩
theorem qvy (hF:2000000≤F){g:List (qFm)}{least m:Int}(hp:pkE g B least k=0) :
  qbn F g N B least k m b=some (if (fw (pkA g B least k.toNat g.length).2.2 m).2.2.2.2.2.2.2≠0 then (0,0,0,0,0,[],0,0,0,0,[],0,[],(fw (pkA g B least k.toNat g.length).2.2 m).2.2.2.2.2.2.2) else
   (N,B,least,k,m,b,(fw (pkA g B least k.toNat g.length).2.2 m).1,(fw (pkA g B least k.toNat g.length).2.2 m).2.1,(fw (pkA g B least k.toNat g.length).2.2 m).2.2.1,(fw (pkA g B least k.toNat g.length).2.2 m).2.2.2.1,(fw (pkA g B least k.toNat g.length).2.2 m).2.2.2.2.1,(fw (pkA g B least k.toNat g.length).2.2 m).2.2.2.2.2.1,(fw (pkA g B least k.toNat g.length).2.2 m).2.2.2.2.2.2.1,0)):=by
 grind [qbn,qw0,ptl,quy]
theorem qmg {g:List (qFm)}{B least:Int}{k:Nat}:∀ n:Nat,(pkA g B least k n).2.2=(qCL n).map fun i=>((pkA g B least k i).1.length:Int)
 | 0=>rfl
 | n+1=>by
  rw[qEH,qDD,← qmg (g:=g) (B:=B) (least:=least) (k:=k) n]
  rfl
def dpt (g:List (qFm))(B least:Int)(k:Nat):Nat→Nat→Nat
 | 0,_=>0
 | f+1,i=>1+if (pkN g B least k i).1=0 then 0 else dpt g B least k f (i-(pkN g B least k i).1)
theorem qBe {g:List (qFm)}{least:Int}{k i:Nat}:(pkN g B least k i).1≤i:=by
 grind [qlV]
theorem qBo {g:List (qFm)}(hg:Gr g){least:Int}{k:Nat}(hh:hcE B least (k:Int)=0)(hl:(pkA g B least k g.length).1.length≤8192){i:Nat}(hi:i<g.length) :
  ∃ p q:Nat,p≤(pkA g B least k g.length).1.length∧pkO (pkA g B least k g.length).1 B i (pkA g B least k i).1.length=some (((pkN g B least k i).1:Int),p) ∧
   rdl (pkA g B least k g.length).1 p (i:Int) (pkF g i (pkN g B least k i).1) ((pkN g B least k i).1:Int) least k=some (g.getD i [],q):=by
 obtain ⟨k1,k2,k',hk,k3,k4⟩:=qfb hh
 have hkk:k=k':=by omega
 subst hkk
 obtain ⟨hr,_⟩:=qlV (g:=g) (B:=B) (least:=least) (k:=k) (i:=i)
 have hgl:=hg.1
 obtain ⟨R,hR⟩:=qqq (g:=g) (B:=B) (least:=least) (k:=k) hi
 have hA:(pkA g B least k (i+1)).1.length=(pkA g B least k i).1.length+(pkH B (pkN g B least k i).1).length+(enc (i:Int) (g.getD i []) (pkF g i (pkN g B least k i).1) ((pkN g B least k i).1:Int) least k).length:=by
  grind [pkA,pkW]
 have hM:=qhX (g:=g) (B:=B) (least:=least) (k:=k) (show i+1≤g.length from hi)
 refine ⟨(pkA g B least k i).1.length+(pkH B (pkN g B least k i).1).length,(pkA g B least k i).1.length+(pkH B (pkN g B least k i).1).length+(enc (i:Int) (g.getD i []) (pkF g i (pkN g B least k i).1) ((pkN g B least k i).1:Int) least k).length,by omega,?_,?_⟩
 ·grind [pkO,pkH,qif]
 ·have hE:(enc (i:Int) (g.getD i []) (pkF g i (pkN g B least k i).1) ((pkN g B least k i).1:Int) least k).length≤8192:=by omega
  grind [qtD,Nd,qot,qk4]
theorem qAT {l:List Nat}{i:Nat}(h:i<l.length):gf l (i:Int)=(((l[i]:Nat):Int),0):=by
 grind [gf]
abbrev S14:=Int×Int×Int×Int×Int×qFm×Int×Int×Int×Int×qFm×Int×qFm×Int
def shz (e:Int):S14:=(0,0,0,0,0,[],0,0,0,0,[],0,[],e)
def fwp (g:List (qFm))(B least k:Int):F8:=fw (pkA g B least k.toNat g.length).2.2 ((pkA g B least k.toNat g.length).1.length:Int)
def shE (g:List (qFm))(B least k:Int):Int:=if pkE g B least k≠0 then pkE g B least k else (fwp g B least k).2.2.2.2.2.2.2
def shb (g:List (qFm))(B least k:Int):S14 :=
 if shE g B least k≠0 then shz (shE g B least k) else ((g.length:Int),B,least,k,((pkA g B least k.toNat g.length).1.length:Int),pk (pkA g B least k.toNat g.length).1,(fwp g B least k).1,(fwp g B least k).2.1,(fwp g B least k).2.2.1,(fwp g B least k).2.2.2.1,(fwp g B least k).2.2.2.2.1,(fwp g B least k).2.2.2.2.2.1,(fwp g B least k).2.2.2.2.2.2.1,0)
theorem qBn {g:List (qFm)}{least:Int}:shE g B least k=0↔pkE g B least k=0∧(fwp g B least k).2.2.2.2.2.2.2=0:=by
 grind [shE]
theorem qxu {g:List (qFm)}{least:Int}(h:shE g B least k=0):shb g B least k=((g.length:Int),B,least,k,((pkA g B least k.toNat g.length).1.length:Int),pk (pkA g B least k.toNat g.length).1,(fwp g B least k).1,(fwp g B least k).2.1,(fwp g B least k).2.2.1,(fwp g B least k).2.2.2.1,(fwp g B least k).2.2.2.2.1,(fwp g B least k).2.2.2.2.2.1,(fwp g B least k).2.2.2.2.2.2.1,0):=by
 grind [shb]
theorem qoV {g:List (qFm)}{least:Int}(h:shE g B least k≠0):shb g B least k=shz (shE g B least k):=by
 grind [shb]
def blt (N B least k m:Int)(b:qFm)(f:F8):S14:=if f.2.2.2.2.2.2.2≠0 then shz f.2.2.2.2.2.2.2 else (N,B,least,k,m,b,f.1,f.2.1,f.2.2.1,f.2.2.2.1,f.2.2.2.2.1,f.2.2.2.2.2.1,f.2.2.2.2.2.2.1,0)
theorem qmY (hF:2000000≤F){g:List (qFm)}{least m:Int}(hp:pkE g B least k=0) :
  qbn F g N B least k m b=some (blt N B least k m b (fw (pkA g B least k.toNat g.length).2.2 m)):=qvy hF hp
theorem qr8 (hF:2000000≤F){g:List (qFm)}{least:Int}:qew F g B least k=some (shb g B least k):=by
 unfold qew
 rw[qkp hF]
 simp only[qCm]
 by_cases hp:pkE g B least k=0
 ·grind [pwr,qmY,blt,fwp,qxu,shE,qoV]
 ·have e:pwr g B least k=(0,0,0,0,0,[],pkE g B least k):=by
   grind [pwr]
  have hs:shE g B least k=pkE g B least k:=by grind [shE]
  rw[e]
  simp only
  rw[if_pos (by grind),qoV (by omega),hs]
  rfl
theorem quk (F:Nat)(g:List (qFm))(N B least k m:Int)(b:qFm):qe8 F g N B least k m b=qbn F g N B least k m b:=rfl
theorem qm9 {g:List (qFm)}{least:Int}:(∃ (ns:List Nat) (kk:Nat),(pkA g B least k.toNat g.length).2.2=lc ns∧((pkA g B least k.toNat g.length).1.length:Int)=kk∧kk≤1048576∧ns.length≤300∧Up kk 0 ns∧Fits kk ns∧fwp g B least k=fo8 kk ns)∨(∃ e:Int,e≠0∧fwp g B least k=fz8 e):=by
 rcases qv8 (l:=(pkA g B least k.toNat g.length).2.2) (t:=((pkA g B least k.toNat g.length).1.length:Int)) with ⟨ns,kk,h1,h2,h3,h4,h5,h6,h7⟩ | ⟨e,h1,h2,_⟩
 ·exact Or.inl ⟨ns,kk,h1,h2,h3,h4,h5,h6,h7⟩
 ·exact Or.inr ⟨e,h1,h2⟩
theorem qyL {g:List (qFm)}{least:Int}:(fwp g B least k).2.2.2.2.1.length≤1100∧(fwp g B least k).2.2.2.2.2.2.1.length≤1100:=by
 rcases qm9 (g:=g) (B:=B) (least:=least) (k:=k) with ⟨ns,kk,h1,h2,h3,h4,h5,h6,h7⟩ | ⟨e,h1,h2⟩
 ·rw[h7]
  have e1:=qhi kk ns
  have e2:=qjB h5
  unfold Fits at h6
  unfold fo8
  simp only[qkl]
  omega
 ·rw[h2];unfold fz8;simp
theorem quV {a1 a2 a3 a4 a6 n w:Int}{a5 a7:qFm}(h1:a5.length<F)(h2:a7.length<F)(h3:a5.length≤1000000)(h4:a7.length≤1000000) :
  qfl F a1 a2 a3 a4 a5 a6 a7 n t w lw xl hw xh=some (decide ((a1,a2,a3,a4,a5,a6,a7)=(n,t,w,lw,xl,hw,xh))):=by
 unfold qfl qcM qcN
 by_cases h:a1=n∧a2=t∧a3=w∧a4=lw∧a6=hw
 ·obtain ⟨rfl,rfl,rfl,rfl,rfl⟩:=h
  rw[if_pos (by simp),peqb h1 h3]
  simp only[qCm]
  by_cases h5:a5=xl
  ·subst h5
   rw[if_pos (by simp),peqb h2 h4]
   simp
  simp_all
 grind [qEV]
instance f8Dec:DecidableEq F8:=fun a b=>decidable_of_iff (a.1=b.1∧a.2=b.2) ⟨fun h=>Prod.ext h.1 h.2,fun h=>by simp_all⟩
def shc (N B least k m:Int)(b:qFm)(n t w lw:Int)(xl:qFm)(hw:Int)(xh:qFm):Int :=
 if (prd N B least k m b).2≠0 then (prd N B least k m b).2 else if fwp (prd N B least k m b).1 B least k=(n,t,w,lw,xl,hw,xh,0) then 0 else 4
theorem ql9 (hF:2000000≤F){least m n w:Int}(hb:U8s b)(hm:I64 m)(lb:b.length≤9223372036854775807) :
  qex F N B least k m b n t w lw xl hw xh=some (shc N B least k m b n t w lw xl hw xh):=by
 unfold qex shc
 rw[qwZ hF hb hm lb]
 simp only[qCm]
 by_cases h:(prd N B least k m b).2=0
 ·obtain ⟨g,h1,h2,h3,h4,h5⟩:=qBh hb h
  rw[h1]
  simp only
  rw[if_neg (by decide),if_neg (by simp),quk,qmY hF h2]
  simp only[qCm]
  subst h4
  have ef:fw (pkA g B least k.toNat g.length).2.2 ((pkA g B least k.toNat g.length).1.length:Int)=fwp g B least k:=rfl
  rw[ef]
  by_cases he:(fwp g B least k).2.2.2.2.2.2.2=0
  ·grind [blt,qyL,quV,qad]
  ·have e2:∀ m',blt N B least k m' b (fwp g B least k)=shz (fwp g B least k).2.2.2.2.2.2.2:=by
    grind [blt]
   rw[e2,if_pos (by simpa[shz] using he)]
   unfold qad
   grind
 simp_all
theorem qxv {g:List (qFm)}{least n w:Int}(h:pkE g B least k=0)(hs:fwp g B least k=(n,t,w,lw,xl,hw,xh,0)) :
  shc (g.length:Int) B least k ((pkA g B least k.toNat g.length).1.length:Int) (pk (pkA g B least k.toNat g.length).1) n t w lw xl hw xh=0:=by
 grind [shc,qBg]
theorem qm7 {g:List (qFm)}{B least:Int}{k:Nat}(hp:pkE g B least (k:Int)=0){n t w lw hw:Int}{xl xh:qFm}(hf:fwp g B least (k:Int)=(n,t,w,lw,xl,hw,xh,0)) :
  ∀ (f F i rd:Nat),2000000+f≤F→i<f→i<g.length→rd+f≤1000000 →
  yC F (g.length:Int) B least (k:Int) ((pkA g B least k g.length).1.length:Int) (pk (pkA g B least k g.length).1) n t w lw xl hw xh (rd:Int) (i:Int) =
   some (g.getD i [],(g.length:Int),B,least,(k:Int),((pkA g B least k g.length).1.length:Int),n,t,w,lw,hw,((rd+dpt g B least k f i:Nat):Int))
 | 0,_,_,_,_,h,_,_=>by omega
 | f+1,F,i,rd,hF,hi,hg,hr=>by
  obtain ⟨F,rfl⟩:∃ F',F=F'+1:=⟨F-1,by omega⟩
  obtain ⟨p1,p2,p3⟩:=qhY hp
  rw[qCs] at p3
  have hG:=yi.1 p1
  have hgl:=hG.1
  obtain ⟨k1,k2,k',hk,k3,k4⟩:=qfb p2
  have hkk:k=k':=by omega
  subst hkk
  obtain ⟨p,q,q1,q2,q3⟩:=qBo hG p2 p3 hg
  have hri:=qBe (g:=g) (B:=B) (least:=least) (k:=k) (i:=i)
  have hbit:=qhm (g:=g) (B:=B) (least:=least) (k:=k) g.length
  have hmono:=qhX (g:=g) (B:=B) (least:=least) (k:=k) (show i≤g.length by omega)
  have hget:qfE F n t w lw xl hw xh (i:Int)=some (((pkA g B least k i).1.length:Int),0):=by
   rcases qm9 (g:=g) (B:=B) (least:=least) (k:=(k:Int)) with ⟨ns,kk,h1,h2,h3,h4,h5,h6,h7⟩ | ⟨e,h1,h2⟩
   ·rw[hf] at h7
    unfold fo8 at h7
    simp only[qEV] at h7
    obtain ⟨rfl,rfl,rfl,rfl,rfl,rfl,rfl,-⟩:=h7
    rw[qCs,qmg] at h1
    have hlen:ns.length=g.length:=by
     have:=congrArg List.length h1
     grind [qhT]
    rw[qwa (by omega) (qBR h5 h6) (qyO h3 h4 h5 h6),qAT (show i<ns.length by omega)]
    have h8:=qA1 (l:=ns) (i:=i) (by omega)
    grind
   grind [fz8]
  unfold yC
  simp only
  rw[hget]
  simp only[qCm]
  rw[qtw (by omega) hbit p3 k1 (by omega) (by omega),q2]
  simp only[qCm]
  have hfrom:∀ fr:qFm,fr=pkF g i (pkN g B least k i).1→qas F ((pkA g B least k g.length).1.length:Int) (pk (pkA g B least k g.length).1) (p:Int) (i:Int) fr ((pkN g B least k i).1:Int) least (k:Int)=some (g.getD i [],(q:Int),0):=by
   rintro fr rfl
   grind [qqH,Nd,qk4]
  by_cases h0:(pkN g B least k i).1=0
  ·grind [yo,pkF,qn,dpt]
  ·rw[if_pos (by grind),qn (by omega)]
   have e1:isub .i64 (i:Int) ((pkN g B least k i).1:Int)=((i-(pkN g B least k i).1:Nat):Int):=by
    grind [zK]
   rw[e1,qm7 hp hf f F (i-(pkN g B least k i).1) (rd+1) (by omega) (by omega) (by omega) (by omega)]
   grind [yo,pkF,dpt]
structure Shf (g:List (qFm)) (B least k n t w lw:Int) (xl:qFm) (hw:Int) (xh:qFm):Prop where
 pe:pkE g B least k=0
 fe:fwp g B least k=(n,t,w,lw,xl,hw,xh,0)
theorem qzj {g:List (qFm)}{least:Int}(h:shE g B least k=0):Shf g B least k (fwp g B least k).1 (fwp g B least k).2.1 (fwp g B least k).2.2.1 (fwp g B least k).2.2.2.1 (fwp g B least k).2.2.2.2.1 (fwp g B least k).2.2.2.2.2.1 (fwp g B least k).2.2.2.2.2.2.1:=by
 obtain ⟨h1,h2⟩:=qBn.1 h
 refine ⟨h1,?_⟩
 grind
theorem qAo {g:List (qFm)}{least n w:Int}(s:Shf g B least k n t w lw xl hw xh) :
  U8s (pk (pkA g B least k.toNat g.length).1)∧I64 ((pkA g B least k.toNat g.length).1.length:Int)∧(pk (pkA g B least k.toNat g.length).1).length≤9223372036854775807:=by
 obtain ⟨p1,p2,p3⟩:=qhY s.pe
 refine ⟨qiA (qhm _),⟨by omega,by omega⟩,?_⟩
 rw[qkl];omega
def rdn' (g:List (qFm))(B least k:Int)(i:Nat):Nat:=dpt g B least k.toNat 101 i
theorem qyY (hF:2000200≤F){g:List (qFm)}{least n w:Int}(s:Shf g B least k n t w lw xl hw xh){i:Nat}(hi:i<g.length) :
  qcq F (g.length:Int) B least k ((pkA g B least k.toNat g.length).1.length:Int) (pk (pkA g B least k.toNat g.length).1) n t w lw xl hw xh (i:Int)=some (g.getD i [],(rdn' g B least k i:Int),0):=by
 obtain ⟨p1,p2,p3⟩:=qhY s.pe
 have hgl:=(yi.1 p1).1
 obtain ⟨k1,k2,k',rfl,k3,k4⟩:=qfb p2
 obtain ⟨b1,b2,b3⟩:=qAo s
 unfold qcq
 rw[ql9 (by omega) b1 b2 b3,qxv s.pe s.fe]
 simp only[qCm]
 rw[if_pos (by rfl)]
 unfold qba
 rw[if_neg (by simp_all)]
 unfold qa9
 rw[if_neg (by decide)]
 have:=qm7 s.pe s.fe 101 F i 0 (by omega) (by omega) hi (by omega)
 rw[qCs] at *
 rw[show ((0:Nat):Int)=0 from rfl] at this
 rw[this]
 simp only[qCm]
 unfold rdn'
 simp
theorem qwv (hF:2000200≤F){g:List (qFm)}{least n w:Int}(s:Shf g B least k n t w lw xl hw xh)(hi:i<0∨(g.length:Int)≤i) :
  qcq F (g.length:Int) B least k ((pkA g B least k.toNat g.length).1.length:Int) (pk (pkA g B least k.toNat g.length).1) n t w lw xl hw xh i=some ([],0,3):=by
 obtain ⟨b1,b2,b3⟩:=qAo s
 unfold qcq
 rw[ql9 (by omega) b1 b2 b3,qxv s.pe s.fe]
 grind [qba,qa9]
abbrev DR:=List (qFm)×Int×Int×Int×qFm×Int
def Fin (g:List (qFm))(B l K:Int)(r:DR):Prop :=
 (∃ e:Int,0<e∧e≤100∧r=([],0,0,0,[],e))∨∃ g' B' l' K' t,r=(g',B',l',K',t,0)∧Gr g'∧hcE B' l' K'=0∧t.length≤2000000∧(t=[111,107]∨g'=g∧B'=B∧l'=l∧K'=K)
def Fine (g:List (qFm))(B l K:Int)(o:Option DR):Prop:=∃ r,o=some r∧Fin g B l K r
theorem vB {g g':List (qFm)}{l B' l' K' e:Int}{n t:qFm}(h:0<e∧e≤100∨e=0∧Gr g'∧hcE B' l' K'=0∧t.length≤2000000∧(t=[111,107]∨g'=g∧B'=B∧l'=l∧K'=K)) :
  Fine g B l K (qr F e g' B' l' K' n t):=by
 rw[qA0]
 refine ⟨_,rfl,?_⟩
 unfold dkE
 rcases h with h | ⟨rfl,h⟩
 ·rw[if_pos (by omega)];exact .inl ⟨e,h.1,h.2,rfl⟩
 ·rw[if_neg (by decide)];exact .inr ⟨g',B',l',K',t,rfl,h⟩
theorem qyq {s:List UInt8}{v:Int}(h:Lib.atoiAll s=.ok v):v≤9223372036854775807:=by
 unfold Lib.atoiAll at h
 split at h
 ·cases h
 ·dsimp only at h
  split at h
  ·cases h
  ·cases h
  ·split at h
   ·cases h
   ·split at h
    ·cases h
    ·cases h
     split <;> omega
theorem qui (h:w.length≤281474976710656):∃ v ok,atoiE w=some (v,ok)∧(ok=true→v≤9223372036854775807):=by
 unfold atoiE
 rw[if_pos h]
 split
 ·exact ⟨_,_,rfl,fun _=>qyq (by assumption)⟩
 ·exact ⟨_,_,rfl,fun h=>by cases h⟩
 ·exact ⟨_,_,rfl,fun h=>by cases h⟩
theorem qnb {v:Int}(h:-9223372036854775808≤v∧v≤9223372036854775807):∃ x,itoaC v=some x:=⟨_,if_pos h⟩
theorem qx5 {F:Nat}{N:Int}{ws:List (qFm)}(hm:ws.length≤2000000)(hw:∀ w∈ws,w.length≤2000000):∀ (k i:Nat) (ns:qFm),ws.length<k+i→i≤ws.length→ns.length=i→(∀ n∈ns,0≤n) →
  ∃ b ns',jb F N ws k ((i:Int),ns)=some (b,ns')∧(b=true→(ns'.length:Int)=N∧∀ n∈ns',0≤n)
 | 0,_,_,_,_,_,_=>by omega
 | k+1,i,ns,h,hi,hl,h0=>by
  show ∃ b ns',qbq F N ws (jb F N ws k) (i:Int) ns=some (b,ns')∧_
  unfold qbq
  by_cases hlt:i<ws.length
  ·rw[if_pos (decide_eq_true (by omega)),qj,qCn hlt]
   simp only[qCm]
   have hwi:=hw _ (qCG hlt)
   obtain ⟨v,ok,hv,hok⟩:=qui (w:=ws[i]) (by omega)
   rw[hv]
   simp only[qCm]
   unfold ja
   split
   ·exact ⟨false,ns,rfl,fun h=>by cases h⟩
   ·rename_i hc
    simp only[qDN,qDR,decide_eq_true_eq,not_or,Bool.not_eq_false] at hc
    have hv2:=hok hc.1.1
    obtain ⟨x,hx⟩:=qnb (v:=v) (by omega)
    rw[hx]
    simp only[qCm]
    split
    ·exact ⟨false,ns,rfl,fun h=>by cases h⟩
    ·rw[ko (by simp;omega)]
     simp only[qCm]
     rw[qn (by omega)]
     refine qx5 hm hw k (i+1) _ (by omega) (by omega) (by simp[hl]) fun n hn=>?_
     rcases qCr.1 hn with hn | hn
     ·exact h0 n hn
     ·rw[List.mem_singleton] at hn;subst hn;omega
  ·rw[if_neg (by simp;omega)]
   have:i=ws.length:=by omega
   subst this
   refine ⟨_,_,rfl,fun hb=>⟨?_,h0⟩⟩
   rw[hl];simpa using hb
theorem jh {g:List (qFm)}{l:Int}{f:Bool×qFm→Option DR}(hF:2000200≤F)(hm:ws.length≤2000000)(hw:∀ w∈ws,w.length≤2000000)(hf:∀ ns,(ns.length:Int)=N→(∀ n∈ns,0≤n)→Fine g B l K (f (true,ns))) :
  Fine g B l K ((qR F g B l K [] [111,107] N ws).bind fun x=>if x.1 then f x else qr F 1 g B l K x.2 [111,107]):=by
 obtain ⟨b,ns,h1,h2⟩:=qx5 (F:=F) (N:=N) hm hw F 0 [] (by omega) (by omega) rfl (by simp)
 rw[show qR F g B l K [] [111,107] N ws=some (b,ns) from h1]
 simp only[qCm]
 cases b with
 | false=>rw[if_neg (by simp)];exact vB (.inl (by decide))
 | true=>rw[if_pos rfl];exact hf ns (h2 rfl).1 (h2 rfl).2
theorem qbk {x:α}{xs:List α}:sub (x::xs) 1 ((x::xs).length:Int)=some xs:=by
 unfold sub
 rw[if_pos ⟨by decide,by rw[qCH];omega,Int.le_refl _⟩,qCs,qDI]
 rfl
def ls3 (L:qFm):List (qFm):=L.map dcI
theorem qwu {F:Nat}{L:qFm}(hL:∀ x∈L,0≤x∧x<1000)(hm:L.length≤1000):∀ (k i:Nat),L.length<k+i→i≤L.length→qb2 F L k (ls3 (L.take i),(i:Int))=joinM (ls3 L) [32]
 | 0,_,_,_=>by omega
 | k+1,i,h,hi=>by
  show qb0 F L (qb2 F L k) (ls3 (L.take i)) (i:Int)=_
  unfold qb0
  by_cases hlt:i<L.length
  ·rw[if_pos (decide_eq_true (by omega)),qj,qCn hlt]
   simp only[qCm]
   rw[qk1 (hL _ (qCG hlt))]
   simp only[qCm]
   rw[ko (by simp[ls3];omega)]
   simp only[qCm]
   rw[qn (by omega),← qwu hL hm k (i+1) (by omega) (by omega)]
   congr 2
   unfold ls3
   rw[jp hlt,qDD];rfl
  ·rw[if_neg (by simp;omega),List.take_of_length_le (by omega)]
   unfold qb1
   cases joinM (ls3 L) [32] <;> rfl
theorem qvv (x:qFm):(bstr x).data.toList.length=x.length:=by
 have:=vL x
 simpa using this
theorem qws (hL:∀ x∈L,0≤x∧x<1000):Lib.lens ((ls3 L).map fun x=>(bstr x).data.toList)≤3*L.length:=by
 induction L with
 | nil=>exact qCE _
 | cons x L ih =>
  have h1:=(qlw (hL x (qCC ..))).2
  have h2:=ih fun y hy=>hL y (qCD _ hy)
  unfold Lib.lens ls3 at h2 ⊢
  simp only[qC5,List.sum_cons,qCH,qvv] at h2 ⊢
  omega
theorem qvk {g:List (qFm)}{l:Int}{n:qFm}(hF:2000≤F)(hL:∀ x∈L,0≤x∧x<1000)(hm:L.length≤1000):∃ t,jB F g B l K n s L=some t∧joinM (ls3 L) [32]=some t∧t.length≤5000:=by
 have h:=qwu (F:=F) hL hm F 0 (by omega) (by omega)
 have hj:(Lib.join ((ls3 L).map fun x=>(bstr x).data.toList) (bstr [32]).data.toList).length≤5000:=by
  have h1:=qws hL
  generalize hq:(ls3 L).map (fun x=>(bstr x).data.toList)=q at h1
  have hql:q.length=L.length:=by rw[← hq];simp[ls3]
  cases q with
  | nil=>rw[Lib.join_nil];exact qCT _
  | cons x r =>
   rw[Lib.join_length,qvv]
   rw[qCH] at hql
   simp only[qCH,qDP]
   omega
 have hs:joinM (ls3 L) [32]=some (lB ⟨(Lib.join ((ls3 L).map fun x=>(bstr x).data.toList) (bstr [32]).data.toList).toArray⟩):=by
  unfold joinM
  rw[if_pos ⟨by simp[ls3];omega,by omega⟩]
 refine ⟨_,h.trans hs,hs,?_⟩
 simpa[lB] using hj
theorem qB7 {g:List (qFm)}(hg:Gr g){x y:Nat}(hx:x<g.length)(h:Sc g x y):y<g.length:=by
 obtain ⟨k,hk⟩:=h.1
 exact qCe hg hx hk
def Acy (g:List (qFm)):Prop:=∀ i,i<g.length→P g i=i∧¬ Ld g i i
theorem Acy.sc {g:List (qFm)}(hg:Gr g)(h:Acy g){x y:Nat}(hx:x<g.length)(hs:Sc g x y):x=y:=by
 have hy:=qB7 hg hx hs
 have:=(qBO hg hx hy).2 hs
 rw[(h x hx).1,(h y hy).1] at this
 omega
theorem qBc (g:List (qFm)):OI g []:=⟨qDL,by simp,by simp⟩
theorem qnl {g:List (qFm)}(hg:Gr g):∀ (m:Nat) (out o:List Nat),OI g out→ordM g m out=some o→OI g o∧o.take out.length=out∧o.length=out.length+m∧∀ j,out.length≤j→j<o.length→nxO g (o.take j)=o[j]?
 | 0,out,o,ho,h=>by
  grind [ordM]
 | m+1,out,o,ho,h=>by
  cases hn:nxO g out with
  | none=>simp[ordM,hn] at h
  | some i =>
   obtain ⟨hi,hf,_⟩:=qql hn
   simp only[ordM,hn] at h
   obtain ⟨h1,h2,h3,h4⟩:=qnl hg m _ _ (ho.snoc hg hi hf) h
   rw[qCt,qD1] at h2 h3 h4
   have ht:o.take out.length=out:=by
    have:(o.take (out.length+1)).take out.length=(out++[i]).take out.length:=by rw[h2]
    grind
   refine ⟨h1,ht,by omega,fun j hj hjl=>?_⟩
   by_cases e:j=out.length
   ·subst e
    rw[ht,hn]
    have:(o.take (out.length+1))[out.length]?=(out++[i])[out.length]?:=by rw[h2]
    grind
   grind
structure Tp (g:List (qFm)) (o:qFm):Prop where
 len:o.length=g.length
 nd:o.Nodup
 rg:∀ x∈o,0≤x∧x<g.length
 up:∀ i j a b:Nat,Ld g i j→o[a]?=some (i:Int)→o[b]?=some (j:Int)→a<b
theorem qrW {L:List Nat}{n:Nat}(h:L.Nodup)(hl:L.length=n)(hlt:∀ x∈L,x<n):∀ x,x<n→x∈L:=fun x hx=>Classical.byContradiction fun hc=>by
 have:=qfW (L:=x::L) (M:=qCL n) (qDw.2 ⟨hc,h⟩) fun y hy=>by
  grind
 grind
theorem Tp.nat {g:List (qFm)}{o:qFm}(h:Tp g o):∃ q:List Nat,o=iz q∧q.Nodup∧q.length=g.length∧∀ x∈q,x<g.length:=by
 refine ⟨o.map Int.toNat,?_,?_,by simp[h.len],fun x hx=>?_⟩
 ·unfold iz
  rw[List.map_map]
  conv=>lhs;rw[← List.map_id o]
  refine List.map_congr_left fun x hx=>?_
  have:=h.rg x hx
  grind
 ·refine List.pairwise_map.2 (List.Pairwise.imp_of_mem (fun hx hy hne e=>?_) h.nd)
  have:=h.rg _ hx;have:=h.rg _ hy
  omega
 ·obtain ⟨y,hy,rfl⟩:=qCV.1 hx
  have:=h.rg y hy
  omega
theorem qBa {L:List α}(h:L.Nodup){i j:Nat}{x:α}(hi:L[i]?=some x)(hj:L[j]?=some x):i=j:=by
 grind [qC4]
theorem qyV {q:List Nat}{a i:Nat}:(iz q)[a]?=some (i:Int)↔q[a]?=some i:=by
 unfold iz
 grind
theorem Tp.pos {g:List (qFm)}{o:qFm}(h:Tp g o){i:Nat}(hi:i<g.length):∃ a,o[a]?=some (i:Int)∧a<g.length:=by
 obtain ⟨q,rfl,h1,h2,h3⟩:=h.nat
 obtain ⟨a,ha,e⟩:=List.getElem_of_mem (qrW h1 h2 h3 i hi)
 exact ⟨a,qyV.2 (by grind),by omega⟩
theorem Tp.wk {g:List (qFm)}(hg:Gr g){o:qFm}(h:Tp g o):∀ {k i j a b:Nat},Wk g k i j→o[a]?=some (i:Int)→o[b]?=some (j:Int)→a+k≤b
 | 0,i,j,a,b,hw,ha,hb=>by
  obtain rfl:i=j:=hw
  have:=qBa h.nd ha hb
  omega
 | k+1,i,j,a,b,hw,ha,hb=>by
  obtain ⟨u,h1,h2⟩:=hw
  obtain ⟨c,hc,_⟩:=h.pos (qlK hg h1).2
  have:=h.up i u a c h1 ha hc
  have:=Tp.wk hg h h2 hc hb
  omega
theorem known1 {g:List (qFm)}{l:Int}{n:qFm}(hF:10≤F):zX F g B l K n s [a]=some (decide (a<g.length)):=by
 unfold zX qX zb
 obtain ⟨k,rfl⟩:∃ k,F=k+2:=⟨F-2,by omega⟩
 have e0:qF (k+2) [a] g B l K n s (k+2) 0=if (g.length:Int)≤a then some 0 else some (-1):=by
  show qA (k+2) [a] g B l K n s (qF (k+2) [a] g B l K n s (k+1)) 0=_
  unfold qA va
  rw[if_pos (by simp),show idx [a] (0:Int)=some a from rfl]
  simp only[qCm,decide_eq_true_eq]
  rfl
 rw[e0]
 by_cases h1:(g.length:Int)≤a
 ·rw[if_pos h1]
  simp only[qCm]
  rw[decide_eq_false (by omega:¬ a<(g.length:Int))];rfl
 ·rw[if_neg h1]
  simp only[qCm]
  rw[decide_eq_true (by omega:a<(g.length:Int))];rfl
theorem qAW {n:Nat}(h:n≤100):Gr (qCo n []):=by
 refine ⟨by simpa using h,fun r hr=>?_,?_⟩
 ·rw[List.eq_of_mem_replicate hr];simp
 ·have:∀ m,gtot (qCo m [])=0:=fun m=>by
   induction m with
   | zero=>rfl
   | succ m ih=>rw[qDp];show 0+gtot _=0;omega
  rw[this];omega
theorem qpQ {g:List (qFm)}{l:Int}(h0:0≤a):qaz F g B l K [a] s=some (if 100<a then (3,g) else (0,qCo a.toNat [])):=by
 unfold qaz
 rw[show idx [a] (0:Int)=some a from rfl]
 simp only[qCm]
 by_cases h:100<a
 ·rw[if_pos (by simpa using h),if_pos h]
 ·rw[if_neg (by simpa using h),if_neg h]
  unfold mk
  rw[if_pos (by omega)];rfl
theorem qAi {n:Int}:∀ {A seen:List (Int×Int)},ofE n seen A=0∨ofE n seen A=3∨ofE n seen A=6
 | [],_=>.inl rfl
 | p::A,seen=>by
  rw[qqm]
  split
  ·exact .inr (.inl rfl)
  ·split
   ·exact .inr (.inr rfl)
   ·exact qAi
theorem qwJ {n:Nat}{A:List (Int×Int)}:(0<(ofM n A).2∧(ofM n A).2≤100)∨(ofM n A).2=0∧Gr (ofM n A).1:=by
 by_cases h1:(n:Int)<0∨100<(n:Int)
 ·left;unfold ofM;rw[if_pos h1];exact by decide
 by_cases h2:600<A.length
 ·left;unfold ofM;rw[if_neg h1,if_pos h2];exact by decide
 by_cases h3:ofE n [] A=0
 ·right
  have h4:=qoJ.1 h3
  rw[qy4 (by omega) (by omega) h4.1 h4.2.1]
  have hT:=qkv (n:=n) h4.2.1
  exact ⟨rfl,qqf hT h4.1 (by omega) (by rw[(qi1 hT h4.1 h4.2.1).length_eq];omega)⟩
 ·left
  unfold ofM
  rw[if_neg h1,if_neg h2,if_pos h3]
  have:=qAi (n:=n) (A:=A) (seen:=[])
  simp only
  omega
theorem qul {g:List (qFm)}{l b:Int}(hF:1000≤F)(hg:Gr g):qch F g B l K [a,b] s=some ((ofM g.length (af 0 g++[(a,b)])).2,(ofM g.length (af 0 g++[(a,b)])).1):=by
 unfold qch
 rw[qyp hF,if_neg (by rw[yi.2 hg];decide)]
 simp only[qCm]
 rw[(qbh (a:=a) (b:=b)).1,(qbh (a:=a) (b:=b)).2]
 simp only[qCm]
 have:=qlD hg
 rw[ko (by simp;omega)]
 simp only[qCm]
 rw[qB2 hF]
 rfl
theorem qna {F:Nat}{r:qFm}{v:Int}(hm:r.length≤1000):∀ (k j:Nat),r.length<k+j→j≤r.length→∃ i,qZ F r v k (j:Int)=some i∧(i<0∨v∈r)
 | 0,j,h,hj=>by omega
 | k+1,j,h,hj=>by
  show ∃ i,qY F r v (qZ F r v k) (j:Int)=some i∧_
  unfold qY
  by_cases hlt:j<r.length
  ·rw[if_pos (decide_eq_true (by omega)),qj,qCn hlt]
   simp only[qCm]
   by_cases e:v=r[j]
   ·rw[if_pos (by simp[e])]
    exact ⟨_,rfl,.inr (e▸qCG hlt)⟩
   ·rw[if_neg (by simpa using e),qn (by omega)]
    exact qna hm k (j+1) (by omega) (by omega)
  ·rw[if_neg (by simp;omega)]
   exact ⟨_,rfl,.inl (by decide)⟩
theorem qmL {g:List (qFm)}{l b:Int}(hF:1000≤F)(hg:Gr g)(h0:0≤a)(hm:(a,b)∉af 0 g) :
  ∃ e,vl F g B l K [a,b] s=some (e,g)∧0<e∧e≤100:=by
 unfold vl
 rw[known2 (by omega)]
 simp only[qCm]
 by_cases h1:a<g.length∧b<g.length
 ·rw[decide_eq_true h1,if_neg (by simp),(qbh (a:=a) (b:=b)).1,(qbh (a:=a) (b:=b)).2]
  simp only[qCm]
  obtain ⟨n,rfl⟩:=qCp h0
  have hn:n<g.length:=by omega
  rw[qj,qCn hn]
  simp only[qCm]
  have hr:=qca hg (qCG hn)
  obtain ⟨i,h2,h3⟩:=qna (F:=F) (r:=g[n]) (v:=b) (by omega) F 0 (by omega) (by omega)
  rw[show zB F g[n] b=some i from h2]
  simp only[qCm]
  rcases h3 with h3 | h3
  ·rw[if_pos (by simpa using h3)];exact ⟨5,rfl,by decide,by decide⟩
  ·exact absurd (qgH.2 ⟨n,g[n],qCn hn,by simp,h3⟩) hm
 ·rw[decide_eq_false h1,if_pos (by simp)]
  exact ⟨3,rfl,by decide,by decide⟩
theorem qBW (B l K:Int):hcE B l K=0∨hcE B l K=3:=by
 unfold hcE;split
 ·exact .inr rfl
 ·exact .inl rfl
theorem qun {g:List (qFm)}{l b c:Int}:qcj F g B l K [a,b,c] s=some (hcE a b c,a,b,c):=by
 unfold qcj
 rw[show idx [a,b,c] (0:Int)=some a from rfl,show idx [a,b,c] (1:Int)=some b from rfl,show idx [a,b,c] (2:Int)=some c from rfl]
 simp only[qCm]
 rw[qd9]
 rfl
theorem qlx:∀ (m u:Nat),u<m→(Lib.decDigits u).length≤u+1
 | 0,_,h=>by omega
 | m+1,u,h=>by
  by_cases h1:u<10
  ·rw[dg1 h1];simp
  ·have:=qlx m (u/10) (by omega)
   rw[dg2 h1,qCt,qD1]
   omega
theorem qjC {v:Int}(h:-1≤v∧v≤1000000):∃ x,itoaC v=some x∧x.length≤2000000:=by
 refine ⟨_,if_pos (by omega),?_⟩
 unfold Lib.itoa
 split
 ·have:=qlx _ v.natAbs (qE0 _)
  simp[lB];omega
 ·have:=qlx _ v.toNat (qE0 _)
  simp[lB];omega
theorem qAj {g:List (qFm)}{l:Int}(hg:Gr g)(hh:hcE B l K=0):pkE g B l K=0∨pkE g B l K=8:=by
 unfold pkE
 rw[if_neg (by rw[yi.2 hg];decide),if_neg (by rw[hh];decide)]
 split
 ·exact .inr rfl
 ·exact .inl rfl
theorem qro {g:List (qFm)}{l:Int}{n:qFm}(hF:2000000≤F)(hg:Gr g)(hh:hcE B l K=0):∃ e t,qby F g B l K n s=some (e,t)∧(e=0∨e=8)∧t.length≤2000000:=by
 unfold qby qbY
 rw[qkp hF]
 simp only[qCm]
 unfold pwr
 rcases qAj hg hh with h | h
 ·obtain ⟨_,_,h3⟩:=qhY h
  rw[if_neg (by rw[h];decide)]
  obtain ⟨x,hx,hl⟩:=qjC (v:=((pkA g B l K.toNat g.length).1.length:Int)) (by omega)
  simp only
  rw[hx]
  exact ⟨_,_,rfl,.inl rfl,hl⟩
 ·rw[if_pos (by rw[h];decide)]
  obtain ⟨x,hx,hl⟩:=qjC (v:=0) (by omega)
  simp only
  rw[hx]
  exact ⟨_,_,rfl,.inr h,hl⟩
theorem qz4 {t:Nat}{f:Nat→Nat}(hf:∀ i j,i≤j→f i≤f j):∀ (m i last:Nat),last≤f i→(∀ j,j<i+m→f j≤t)→Up t last ((List.range' i m).map f)
 | 0,_,_,_,_=>trivial
 | m+1,i,last,h,ht=>by
  rw[List.range'_succ,qC5]
  exact ⟨h,ht i (by omega),qz4 hf m (i+1) (f i) (hf _ _ (by omega)) fun j hj=>ht j (by omega)⟩
theorem qwR {g:List (qFm)}{B l:Int}{k:Nat}:∀ n,(pkA g B l k n).2.2=lc ((qCL n).map fun i=>(pkA g B l k i).1.length)
 | 0=>rfl
 | n+1=>by
  rw[pkA,qwR n]
  simp[lc,qEH]
theorem qB8 {g:List (qFm)}{l:Int}(hg:Gr g)(hh:hcE B l K=0):shE g B l K=0∨shE g B l K=8:=by
 unfold shE
 rcases qAj hg hh with h | h
 ·obtain ⟨_,_,h3⟩:=qhY h
  have h1:=hg.1
  rw[if_neg (by rw[h];decide)]
  unfold fwp
  rw[qwR,List.range_eq_range',(qoq (t:=(pkA g B l K.toNat g.length).1.length) (by omega) (by simp;omega) (qz4 (fun i j h=>qhX h) g.length 0 0 (qCT _) fun j hj=>qhX (by omega))).2]
  split
  ·exact .inl rfl
  ·exact .inr rfl
 ·rw[if_pos (by rw[h];decide)];exact .inr h
def dkj (L:qFm):qFm:=(joinM (ls3 L) [32]).getD []
theorem qir {g:List (qFm)}{l:Int}{n:qFm}(hF:2000≤F)(hL:∀ x∈L,0≤x∧x<1000)(hm:L.length≤1000):jB F g B l K n s L=some (dkj L)∧(dkj L).length≤5000:=by
 obtain ⟨t,h1,h2,h3⟩:=qvk (F:=F) (g:=g) (B:=B) (l:=l) (K:=K) (n:=n) (s:=s) hF hL hm
 unfold dkj
 rw[h2]
 exact ⟨h1,h3⟩
theorem qxi {g:List (qFm)}{r:qFm}(hg:Gr g)(hr:r∈g):(∀ x∈r,0≤x∧x<1000)∧r.length≤1000:=by
 have h1:=hg.1
 have h2:=qca hg hr
 refine ⟨fun x hx=>?_,by omega⟩
 have:=(hg.2.1 r hr).2 x hx
 omega
def findT (g:List (qFm))(a:Int):Int×qFm:=if a<g.length then (0,dkj (g.getD a.toNat [])) else (3,dkj [])
theorem qrr {g:List (qFm)}{l:Int}(hF:2000200≤F)(hg:Gr g)(hh:hcE B l K=0)(h0:0≤a):qbz F g B l K [a] s=some (if shE g B l K=0 then findT g a else (8,s)):=by
 unfold qbz qbZ
 rw[qr8 (by omega)]
 simp only[qCm]
 rcases qB8 hg hh with h | h
 ·rw[qxu h,if_pos h]
  simp only
  rw[if_neg (by decide),show idx [a] (0:Int)=some a from rfl]
  simp only[qCm]
  have sf:=qzj h
  unfold findT
  by_cases ha:a<g.length
  ·obtain ⟨i,rfl⟩:=qCp h0
   have hi:i<g.length:=by omega
   rw[if_pos ha,qyY hF sf hi]
   simp only[qCm]
   have hr:=qxi hg (qCG hi)
   have e:g.getD i []=g[i]:=by simp[qEj,qCn hi]
   rw[qCs,e,(qir (by omega) hr.1 hr.2).1]
   rfl
  ·rw[if_neg ha,qwv hF sf (.inr (by omega))]
   simp only[qCm]
   rw[(qir (by omega) (by simp) (by simp)).1]
   rfl
 ·rw[qoV (by rw[h];decide),h]
  unfold shz
  simp only
  rw[if_pos (by decide),if_neg (by decide)]
theorem qv3 {g:List (qFm)}(hg:Gr g)(h0:0≤a):((findT g a).1=0∨(findT g a).1=3)∧(findT g a).2.length≤5000:=by
 unfold findT
 split
 ·have hi:a.toNat<g.length:=by omega
  have hr:=qxi hg (qCG hi)
  have e:g.getD a.toNat []=g[a.toNat]:=by simp[qEj,qCn hi]
  refine ⟨.inl rfl,?_⟩
  rw[e]
  exact (qir (F:=2000) (g:=g) (B:=0) (l:=0) (K:=0) (n:=[]) (s:=[]) (by omega) hr.1 hr.2).2
 ·exact ⟨.inr rfl,(qir (F:=2000) (g:=g) (B:=0) (l:=0) (K:=0) (n:=[]) (s:=[]) (L:=[]) (by omega) (by simp) (by simp)).2⟩
def mayT (r:qFm×Int)(z:Int):Int×qFm:=if r.2=z then (0,[110,111,110,101]) else (r.2,dkj r.1)
theorem qkG {g:List (qFm)}{l z:Int}{n:qFm}{r:qFm×Int}(hF:2000≤F)(hL:∀ x∈r.1,0≤x∧x<1000)(hm:r.1.length≤1000):vN F g B l K n s r.1 r.2 z=some (mayT r z):=by
 unfold vN v8 mayT
 rw[(qir hF hL hm).1]
 simp only[qCm]
 by_cases h:r.2=z
 ·rw[if_pos (by simpa using h),if_pos h]
 ·rw[if_neg (by simpa using h),if_neg h]
theorem qtk {r:qFm×Int}{z:Int}(hz:r.2=0∨0<r.2∧r.2≤100)(hL:∀ x∈r.1,0≤x∧x<1000)(hm:r.1.length≤1000):((mayT r z).1=0∨0<(mayT r z).1∧(mayT r z).1≤100)∧(mayT r z).2.length≤5000:=by
 unfold mayT
 split
 ·exact ⟨.inl rfl,by decide⟩
 ·exact ⟨hz,(qir (F:=2000) (g:=[]) (B:=0) (l:=0) (K:=0) (n:=[]) (s:=[]) (by omega) hL hm).2⟩
theorem qAc {q:List Nat}{m:Nat}(h:∀ i∈q,i<m)(hm:m≤100):∀ x∈iz q,0≤x∧x<1000:=fun x hx=>by
 obtain ⟨i,hi,rfl⟩:=qCV.1 hx
 have:=h i hi
 omega
theorem qBD {g:List (qFm)}(hg:Gr g):wchk g ns=0∨wchk g ns=3:=by
 unfold wchk
 rw[if_neg (by rw[yi.2 hg];decide)]
 split
 ·exact .inr rfl
 ·exact .inl rfl
theorem qyc {g:List (qFm)}(a b:Int)(hg:Gr g):((wayM g a b).2=0∨0<(wayM g a b).2∧(wayM g a b).2≤100)∧(∀ x∈(wayM g a b).1,0≤x∧x<1000)∧(wayM g a b).1.length≤1000:=by
 unfold wayM
 rcases qBD (ns:=[a,b]) hg with h | h
 ·rw[if_neg (by rw[h];decide)]
  obtain ⟨_,⟨n,rfl,hn⟩,m,rfl,hm⟩:=wchk2 h
  rw[qCs,qCs]
  split
  ·exact ⟨by decide,by simp,by simp⟩
  ·rename_i hz
   have h1:=hg.1
   have hl:=qht g
   have hf:=qjs (qmm hg) (s:=m) (by omega)
   have hlt:=hf.lt n (by omega)
   obtain ⟨k,hk⟩:=qCp (by omega:0≤gD (farL (tn g) m) n)
   rw[hk,qCs]
   have hw:=qyh g (farL (tn g) m) k n
   refine ⟨.inl rfl,qAc (m:=g.length) (fun i hi=>?_) h1,by rw[qdK,hw];omega⟩
   obtain ⟨j,hj,he⟩:=qEn.1 hi
   have h2:=qyg hg hf k n j hk (by omega)
   rw[show (wy g (farL (tn g) m) k n).getD j 0=i from by simp[qEj,qCn hj,he]] at h2
   refine Nat.lt_of_not_le fun hc=>?_
   rw[qrD (by rw[hf.len,hl];exact hc)] at h2
   omega
 ·rw[if_pos (by rw[h];decide),h]
  exact ⟨by decide,by simp,by simp⟩
theorem qup {g:List (qFm)}{l b:Int}(hF:2000≤F)(hg:Gr g):qck F g B l K [a,b] s=some (mayT (wayM g a b) 5):=by
 unfold qck
 rw[(qbh (a:=a) (b:=b)).1,(qbh (a:=a) (b:=b)).2]
 simp only[qCm]
 rw[qAD hF]
 simp only[qCm]
 have h:=qyc a b hg
 rw[qkG hF h.2.1 h.2.2]
 rfl
theorem qvS {g:List (qFm)}(hg:Gr g):((ordR (ordL g)).2=0∨0<(ordR (ordL g)).2∧(ordR (ordL g)).2≤100)∧(∀ x∈(ordR (ordL g)).1,0≤x∧x<1000)∧(ordR (ordL g)).1.length≤1000:=by
 cases h:ordL g with
 | none=>exact ⟨by decide,by simp[ordR],by simp[ordR]⟩
 | some o =>
  have ho:=(qnl hg _ _ _ (qBc g) h).1
  have h1:=hg.1
  have h2:=ho.len
  refine ⟨.inl rfl,qAc ho.lt h1,by show (iz o).length≤_;rw[qdK];omega⟩
theorem qpR {g:List (qFm)}{l:Int}{n:qFm}(hF:4000≤F)(hg:Gr g):qaA F g B l K n s=some (mayT (ordR (ordL g)) 4):=by
 unfold qaA
 rw[qvm hF,if_neg (by rw[yi.2 hg];decide)]
 simp only[qCm]
 have h:=qvS hg
 rw[qkG (by omega) h.2.1 h.2.2]
 rfl
def oneT (s L:qFm)(a:Int):Int×qFm:=if a<L.length then (0,dcI (gD L a.toNat)) else (3,s)
theorem qrs {g:List (qFm)}{l:Int}(hF:4000≤F)(hg:Gr g)(h0:0≤a):kL F g B l K [a] s=some (oneT s (spartL g) a):=by
 have hp:=qg0 hg
 have h1:=hg.1
 unfold kL oneT
 rw[show idx [a] (0:Int)=some a from rfl]
 simp only[qCm]
 rw[known1 (by omega),hp.len]
 simp only[qCm]
 by_cases ha:a<g.length
 ·rw[decide_eq_true ha,if_neg (by simp),if_pos ha,quT hF]
  simp only[qCm]
  unfold spartM
  rw[if_neg (by rw[yi.2 hg];decide)]
  obtain ⟨i,rfl⟩:=qCp h0
  have hi:i<g.length:=by omega
  have:=hp.le i hi
  rw[qj,qgD (by rw[hp.len];exact hi)]
  simp only[qCm]
  rw[qk1 (by omega)]
  rfl
 ·rw[decide_eq_false ha,if_pos (by simp),if_neg ha]
theorem qrp {g:List (qFm)}{l:Int}(hF:4000≤F)(hg:Gr g)(h0:0≤a):∃ c,IsCore g c∧kK F g B l K [a] s=if a<g.length then (itoaC (c a.toNat:Int)).bind fun x=>some (0,x) else some (3,s):=by
 have h1:=hg.1
 obtain ⟨c,hc,hn⟩:=qrZ (F:=F) (by omega) hg
 refine ⟨c,hc,?_⟩
 unfold kK
 rw[show idx [a] (0:Int)=some a from rfl]
 simp only[qCm]
 rw[known1 (by omega)]
 simp only[qCm]
 by_cases ha:a<g.length
 ·rw[decide_eq_true ha,if_neg (by simp),if_pos ha,hn]
  simp only[qCm]
  obtain ⟨i,rfl⟩:=qCp h0
  rw[qj,qwC (by omega),qCs]
  rfl
 ·rw[decide_eq_false ha,if_pos (by simp),if_neg ha]
theorem qoe {g:List (qFm)}{l:Int}{n:qFm}(hF:200000≤F)(hg:Gr g):∃ t,itoaC ((th g).length:Int)=some t∧t.length≤2000000∧j2 F g B l K n s=some (0,t):=by
 have:=qx6 hg
 obtain ⟨x,hx,hl⟩:=qjC (v:=((th g).length:Int)) (by omega)
 refine ⟨x,hx,hl,?_⟩
 unfold j2
 rw[qvj hF hg]
 simp only[qCm]
 rw[hx]
 rfl
def farT (g:List (qFm))(a b:Nat):qFm:=if gD (farL g a) b<0 then [110,111,110,101] else dcI (gD (farL g a) b)
theorem qum {g:List (qFm)}{l b:Int}(hF:1000≤F)(hg:Gr g)(ha:0≤a)(hb:0≤b):qci F g B l K [a,b] s=some (if a<g.length∧b<g.length then (0,farT g a.toNat b.toNat) else (3,s)):=by
 have h1:=hg.1
 unfold qci
 rw[known2 (by omega)]
 simp only[qCm]
 by_cases h:a<g.length∧b<g.length
 ·rw[decide_eq_true h,if_neg (by simp),if_pos h,(qbh (a:=a) (b:=b)).1,(qbh (a:=a) (b:=b)).2]
  simp only[qCm]
  obtain ⟨n,rfl⟩:=qCp ha
  obtain ⟨m,rfl⟩:=qCp hb
  have hn:n<g.length:=by omega
  have hf:=qjs hg hn
  rw[qAB hF,show farM g (n:Int)=(farL g n,0) from by unfold farM;rw[if_neg (by simp[qyd hg hn]),qCs]]
  simp only[qCm]
  rw[qj,qgD (by rw[hf.len];omega)]
  simp only[qCm]
  have hlo:=hf.low m
  have hlt:=hf.lt m (by omega)
  unfold farT j1
  rw[qCs,qCs]
  by_cases hz:gD (farL g n) m<0
  ·obtain ⟨x,hx⟩:=qnb (v:=gD (farL g n) m) (by omega)
   rw[hx]
   simp only[qCm]
   rw[if_pos (by simpa using hz),if_pos hz]
  ·rw[qk1 (by omega)]
   simp only[qCm]
   rw[if_neg (by simpa using hz),if_neg hz]
 ·rw[decide_eq_false h,if_pos (by simp),if_neg h]
theorem qvW {g:List (qFm)}{a b:Nat}(hg:Gr g)(ha:a<g.length):(farT g a b).length≤10:=by
 have h1:=hg.1
 have hf:=qjs hg ha
 have hlt:=hf.lt b (by omega)
 unfold farT
 split
 ·decide
 ·have:=(qlw (n:=gD (farL g a) b) (by omega)).2
  omega
theorem two (h:(ns.length:Int)=2):∃ a b,ns=[a,b]:=by
 match ns,h with
 | [a,b],_=>exact ⟨a,b,rfl⟩
theorem one (h:(ns.length:Int)=1):∃ a,ns=[a]:=by
 match ns,h with
 | [a],_=>exact ⟨a,rfl⟩
theorem three (h:(ns.length:Int)=3):∃ a b c,ns=[a,b,c]:=by
 match ns,h with
 | [a,b,c],_=>exact ⟨a,b,c,rfl⟩
theorem e3:0<(3:Int)∧(3:Int)≤100:=by decide
theorem e1:0<(1:Int)∧(1:Int)≤100:=by decide
theorem e8:0<(8:Int)∧(8:Int)≤100:=by decide
theorem qc3 {g:List (qFm)}{l e:Int}{n t:qFm}(hg:Gr g)(hh:hcE B l K=0)(he:e=0∨0<e∧e≤100)(ht:e=0→t.length≤2000000):Fine g B l K (qr F e g B l K n t):=by
 rcases he with rfl | he
 ·exact vB (.inr ⟨rfl,hg,hh,ht rfl,.inr ⟨rfl,rfl,rfl,rfl⟩⟩)
 ·exact vB (.inl he)
theorem qbg {c:Prop}[Decidable c]{g:List (qFm)}{l:Int}{a b:Option DR}(h1:Fine g B l K a)(h2:Fine g B l K b):Fine g B l K (if c then a else b):=by
 by_cases h:c
 ·rw[if_pos h];exact h1
 ·rw[if_neg h];exact h2
theorem f15 {g:List (qFm)}{l:Int}(hF:2000200≤F)(hh:hcE B l K=0)(hm:ws.length≤2000000)(hw:∀ w∈ws,w.length≤2000000):Fine g B l K (qaT F (g,B,l,K) (w::ws)):=by
 unfold qaT
 rw[qbk]
 refine jh hF hm hw fun ns hn h0=>?_
 obtain ⟨a,rfl⟩:=one hn
 have ha:=h0 a (by simp)
 rw[qpQ ha]
 simp only[qCm]
 split
 ·exact vB (.inl e3)
 ·exact vB (.inr ⟨rfl,qAW (by omega),hh,by decide,.inl rfl⟩)
theorem f16 {g:List (qFm)}{l:Int}(hF:2000200≤F)(hg:Gr g)(hh:hcE B l K=0)(hm:ws.length≤2000000)(hw:∀ w∈ws,w.length≤2000000):Fine g B l K (qaU F (g,B,l,K) (w::ws)):=by
 unfold qaU
 rw[qbk]
 refine jh hF hm hw fun ns hn h0=>?_
 obtain ⟨a,b,rfl⟩:=two hn
 rw[qul (by omega) hg]
 simp only[qCm]
 rcases qwJ (n:=g.length) (A:=af 0 g++[(a,b)]) with h | ⟨h,h2⟩
 ·exact vB (.inl h)
 ·exact vB (.inr ⟨h,h2,hh,by decide,.inl rfl⟩)
theorem f17 {g:List (qFm)}{l:Int}(hF:2000200≤F)(hg:Gr g)(hh:hcE B l K=0)(hm:ws.length≤2000000)(hw:∀ w∈ws,w.length≤2000000):Fine g B l K (qaV F (g,B,l,K) (w::ws)):=by
 unfold qaV
 rw[qbk]
 refine jh hF hm hw fun ns hn h0=>?_
 obtain ⟨a,b,rfl⟩:=two hn
 by_cases hc:(a,b)∈af 0 g
 ·obtain ⟨h,h1,h2,_⟩:=qrq (F:=F) (B:=B) (l:=l) (K:=K) (s:=[111,107]) (by omega) hg hc
  simp only[h1,qCm]
  exact vB (.inr ⟨rfl,h2,hh,by decide,.inl rfl⟩)
 ·obtain ⟨e,h1,h2⟩:=qmL (F:=F) (B:=B) (l:=l) (K:=K) (s:=[111,107]) (by omega) hg (h0 a (by simp)) hc
  simp only[h1,qCm]
  exact vB (.inl h2)
theorem f18 {g:List (qFm)}{l:Int}(hF:2000200≤F)(hg:Gr g)(hm:ws.length≤2000000)(hw:∀ w∈ws,w.length≤2000000):Fine g B l K (qaW F (g,B,l,K) (w::ws)):=by
 unfold qaW
 rw[qbk]
 refine jh hF hm hw fun ns hn h0=>?_
 obtain ⟨a,b,c,rfl⟩:=three hn
 rw[qun]
 simp only[qCm]
 rcases qBW a b c with h | h
 ·exact vB (.inr ⟨h,hg,h,by decide,.inl rfl⟩)
 ·exact vB (.inl (by simp only[h];decide))
theorem f19 {g:List (qFm)}{l:Int}(hF:2000200≤F)(hg:Gr g)(hh:hcE B l K=0)(hm:ws.length≤2000000)(hw:∀ w∈ws,w.length≤2000000):Fine g B l K (qaX F (g,B,l,K) (w::ws)):=by
 unfold qaX
 rw[qbk]
 refine jh hF hm hw fun ns hn h0=>?_
 obtain ⟨e,t,h1,h2,h3⟩:=qro (F:=F) (n:=ns) (s:=[111,107]) (by omega) hg hh
 simp only[h1,qCm]
 exact qc3 hg hh (by omega) fun _=>h3
theorem f20 {g:List (qFm)}{l:Int}(hF:2000200≤F)(hg:Gr g)(hh:hcE B l K=0)(hm:ws.length≤2000000)(hw:∀ w∈ws,w.length≤2000000):Fine g B l K (qaY F (g,B,l,K) (w::ws)):=by
 unfold qaY
 rw[qbk]
 refine jh hF hm hw fun ns hn h0=>?_
 obtain ⟨a,rfl⟩:=one hn
 have ha:=h0 a (by simp)
 rw[qrr hF hg hh ha]
 simp only[qCm]
 have:=qv3 hg ha
 split
 ·exact qc3 hg hh (by omega) fun _=>by omega
 ·exact vB (.inl e8)
theorem f21 {g:List (qFm)}{l:Int}(hF:2000200≤F)(hg:Gr g)(hh:hcE B l K=0)(hm:ws.length≤2000000)(hw:∀ w∈ws,w.length≤2000000):Fine g B l K (qaZ F (g,B,l,K) (w::ws)):=by
 unfold qaZ
 rw[qbk]
 refine jh hF hm hw fun ns hn h0=>?_
 obtain ⟨a,b,rfl⟩:=two hn
 have ha:=h0 a (by simp)
 rw[qum (by omega) hg ha (h0 b (by simp))]
 simp only[qCm]
 split
 ·have:=qvW (a:=a.toNat) (b:=b.toNat) hg (by omega)
  exact qc3 hg hh (.inl rfl) fun _=>by simp only;omega
 ·exact vB (.inl e3)
theorem f22 {g:List (qFm)}{l:Int}(hF:2000200≤F)(hg:Gr g)(hh:hcE B l K=0)(hm:ws.length≤2000000)(hw:∀ w∈ws,w.length≤2000000):Fine g B l K (qa0 F (g,B,l,K) (w::ws)):=by
 unfold qa0
 rw[qbk]
 refine jh hF hm hw fun ns hn h0=>?_
 obtain ⟨a,b,rfl⟩:=two hn
 rw[qup (by omega) hg]
 simp only[qCm]
 have hi:=qyc a b hg
 have:=qtk (z:=5) hi.1 hi.2.1 hi.2.2
 exact qc3 hg hh this.1 fun _=>by omega
theorem f23 {g:List (qFm)}{l:Int}(hF:2000200≤F)(hg:Gr g)(hh:hcE B l K=0)(hm:ws.length≤2000000)(hw:∀ w∈ws,w.length≤2000000):Fine g B l K (qa1 F (g,B,l,K) (w::ws)):=by
 unfold qa1
 rw[qbk]
 refine jh hF hm hw fun ns hn h0=>?_
 obtain ⟨a,rfl⟩:=one hn
 have ha:=h0 a (by simp)
 rw[qrs (by omega) hg ha]
 simp only[qCm]
 unfold oneT
 have hp:=qg0 hg
 have h1:=hg.1
 rw[hp.len]
 split
 ·have h2:=hp.le a.toNat (by omega)
  have:=(qlw (n:=gD (spartL g) a.toNat) (by omega)).2
  exact qc3 hg hh (.inl rfl) fun _=>by simp only;omega
 ·exact vB (.inl e3)
theorem f24 {g:List (qFm)}{l:Int}(hF:2000200≤F)(hg:Gr g)(hh:hcE B l K=0)(hm:ws.length≤2000000)(hw:∀ w∈ws,w.length≤2000000):Fine g B l K (qa2 F (g,B,l,K) (w::ws)):=by
 unfold qa2
 rw[qbk]
 refine jh hF hm hw fun ns hn h0=>?_
 rw[qpR (by omega) hg]
 simp only[qCm]
 have hi:=qvS hg
 have:=qtk (z:=4) hi.1 hi.2.1 hi.2.2
 exact qc3 hg hh this.1 fun _=>by omega
theorem f25 {g:List (qFm)}{l:Int}(hF:2000200≤F)(hg:Gr g)(hh:hcE B l K=0)(hm:ws.length≤2000000)(hw:∀ w∈ws,w.length≤2000000):Fine g B l K (qa3 F (g,B,l,K) (w::ws)):=by
 unfold qa3
 rw[qbk]
 refine jh hF hm hw fun ns hn h0=>?_
 obtain ⟨a,rfl⟩:=one hn
 have ha:=h0 a (by simp)
 obtain ⟨c,hc,h2⟩:=qrp (F:=F) (B:=B) (l:=l) (K:=K) (s:=[111,107]) (by omega) hg ha
 have h1:=hg.1
 simp only[h2]
 by_cases h3:a<g.length
 ·have h4:=hc.1 a.toNat (by omega)
  obtain ⟨x,hx,hl⟩:=qjC (v:=(c a.toNat:Int)) (by have:=qvQ g (fun u=>decide (c a.toNat≤c u)) a.toNat;omega)
  simp only[if_pos h3,hx,qCm]
  exact qc3 hg hh (.inl rfl) fun _=>hl
 ·simp only[if_neg h3,qCm]
  exact vB (.inl e3)
theorem f26 {g:List (qFm)}{l:Int}(hF:2000200≤F)(hg:Gr g)(hh:hcE B l K=0)(hm:ws.length≤2000000)(hw:∀ w∈ws,w.length≤2000000):Fine g B l K (qa4 F (g,B,l,K) (w::ws)):=by
 unfold qa4
 rw[qbk]
 refine jh hF hm hw fun ns hn h0=>?_
 obtain ⟨t,_,h2,h3⟩:=qoe (F:=F) (B:=B) (l:=l) (K:=K) (n:=ns) (s:=[111,107]) (by omega) hg
 simp only[h3,qCm]
 exact qc3 hg hh (.inl rfl) fun _=>h2
end Go.Proofs.YthibchijlpflmaaGreatDoor
