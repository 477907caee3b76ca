/- Plain facts of what the functions of this seat compute, part 2. -/
import Derived.Test.YthibchijlpflmaaGreatDoorPureDesk6
import Derived.KernelRfl
import Derived.Lib.SlicesCompact
import Derived.Lib.SplitLaws
open BitVec renaming ofNat→qCL, ofInt→qCX
open Bool renaming false_eq_true→qCr, and_eq_true→qCS, not_true→qC9, or_eq_true→qDB, not_eq_true'→qDF, not_false→qEH, not_eq_true→qEY
open Int renaming eq_ofNat_of_zero_le→qCd, toNat_natCast→qCf, ediv_le_self→qEs
open List renaming getElem?_eq_getElem→qCb, replicate→qCc, mem_of_getElem?→qCe, mem_append→qCg, length_append→qCh, append_assoc→qCi, mem_cons→qCj, drop_eq_getElem_cons→qCk, length_take→qCo, drop_eq_nil_of_le→qCp, getElem_mem→qCs, length_cons→qCt, mem_cons_self→qCu, mem_cons_of_mem→qCx, range→qCz, nil_append→qCA, length_map→qCF, drop_zero→qCJ, mem_map→qCK, append_nil→qCM, getElem?_eq_none→qCP, pairwise_iff_getElem→qCT, map_cons→qCU, ext_getElem→qC3, perm_middle→qC6, mem_filter→qDd, replicate_succ→qDe, cons_append→qDj, getD_eq_getElem?_getD→qDl, nodup_cons→qDm, mem_range→qDq, map_append→qDs, take_length→qDv, nodup_nil→qDy, length_singleton→qDz, length_nil→qDD, pairwise_map→qDG, drop_succ_cons→qDI, getElem_range→qDQ, getD→qDR, singleton_append→qD8, filter_cons→qEb, getElem_map→qEc, mem_iff_getElem→qEd, filter_sublist→qEe, nodup_range→qEt, range_succ→qEy, getElem_set→qEX
open List.Perm renaming refl→qCI
open List.cons renaming injEq→qD5
open Nat renaming le_refl→qCq, zero_le→qCH, mul_le_mul_right→qCO, zero_add→qC0, pow_le_pow_right→qC1, le_trans→qC5, add_mul→qDa, div_le_div_right→qDE, pow_pos→qDO, div_le_self→qDV, add_comm→qD0, add_sub_cancel→qD6, div_add_mod→qEg, mul_le_mul→qEl, lt_succ_self→qES, one_mul→qE8
open Option renaming bind_some→qCa, bind_eq_some_iff→qCV, map_some→qC8, map_bind→qEZ
open Option.some renaming injEq→qCm
open Prod.mk renaming injEq→qEN
namespace Go.Proofs.YthibchijlpflmaaGreatDoor
open Go SX
variable {F:Nat} {rec68:(List (Int×Int)×qFa×Int)→Option (List (Int×Int)×qFa)} {l:qFa} {lea0:Int} {o:List (Int×Int)} {rest:qFa} {i:Int}
theorem qBM {L:List Nat}(h:L.Pairwise (·<·)):(iz L).Pairwise (·<·):=by
 unfold iz
 rw[qDG]
 exact h.imp fun {a b} hab=>by show (a:Int)<(b:Int);omega
def ldB (g:List (qFa))(k i:Nat):Bool:=decide (((k:Int),(i:Int))∈af 0 g)
theorem qib {g:List (qFa)}{k i:Nat}:ldB g k i=true↔Ld g k i:=by unfold ldB Ld;simp
def free (g:List (qFa))(out:List Nat)(i:Nat):Bool:=decide (i∉out) && (qCz g.length).all fun k=>decide (k∈out) || !ldB g k i
theorem qjt {g:List (qFa)}{out:List Nat}{i:Nat}:free g out i=true↔i∉out∧∀ k,k<g.length→Ld g k i→k∈out:=by
 unfold free
 simp only[qCS,decide_eq_true_eq,List.all_eq_true,qDq,qDB,qDF]
 refine and_congr Iff.rfl ⟨fun h k hk hl=>?_,fun h k hk=>?_⟩
 ·grind [qib]
 ·by_cases hl:Ld g k i
  ·simp_all
  ·refine .inr ?_
   rw[← qEY,qib];omega
def nxO (g:List (qFa))(out:List Nat):Option Nat:=(qCz g.length).find? (free g out)
def ordM (g:List (qFa)):Nat→List Nat→Option (List Nat)
 | 0,out=>some out
 | m+1,out=>match nxO g out with
  | none=>none
  | some i=>ordM g m (out++[i])
def ordL (g:List (qFa)):Option (List Nat):=ordM g g.length []
structure OI (g:List (qFa)) (out:List Nat):Prop where
 nd:out.Nodup
 lt:∀ i,i∈out→i<g.length
 pre:∀ i,i∈out→∀ k,Ld g k i→k∈out
theorem OI.len {g:List (qFa)}{out:List Nat}(h:OI g out):out.length≤g.length:=by
 have:=qfT (M:=qCz g.length) h.nd fun x hx=>qDq.2 (h.lt x hx)
 simp_all
theorem qqd {g:List (qFa)}{out:List Nat}{i:Nat}(h:nxO g out=some i):i<g.length∧free g out i=true∧∀ j,j<i→free g out j=false:=by
 grind [nxO,List.find?_range_eq_some]
theorem qwy {g:List (qFa)}{out:List Nat}(h:nxO g out=none){i:Nat}(hi:i<g.length):free g out i=false:=by
 have:=List.find?_eq_none.1 h i (qDq.2 hi)
 simp_all
theorem OI.snoc {g:List (qFa)}(hg:Gr g){out:List Nat}{i:Nat}(h:OI g out)(hi:i<g.length)(hf:free g out i=true):OI g (out++[i]):=by
 obtain ⟨h1,h2⟩:=qjt.1 hf
 refine ⟨List.nodup_append.2 ⟨h.nd,by simp,fun a ha b hb e=>?_⟩,fun x hx=>?_,fun x hx k hk=>?_⟩
 ·simp_all
 ·rcases qCg.1 hx with hx | hx
  ·exact h.lt x hx
  simp_all
 ·rw[qCg]
  rcases qCg.1 hx with hx | hx
  ·exact .inl (h.pre x hx k hk)
  grind [qlF]
def cntP (g:List (qFa))(out:List Nat)(i:Nat):Nat:=((qCz g.length).filter fun k=>decide (k∉out) && ldB g k i).length
theorem qul {g:List (qFa)}{out:List Nat}{i:Nat}(hi:i∉out):cntP g out i=0↔free g out i=true:=by
 rw[qjt]
 unfold cntP
 rw[List.length_eq_zero_iff,List.filter_eq_nil_iff]
 simp only[qDq,qCS,decide_eq_true_eq,qib,not_and]
 grind
theorem qlv {p:Nat→Bool}{n0:Nat}:∀ (L:List Nat),L.Nodup→(L.filter p).length=(L.filter fun k=>p k && decide (k≠n0)).length+if n0∈L∧p n0=true then 1 else 0
 | [],_=>by simp
 | a::L,h=>by
  obtain ⟨h1,h2⟩:=qDm.1 h
  have ih:=qlv (p:=p) (n0:=n0) L h2
  grind
theorem quk {g:List (qFa)}{out:List Nat}{n0 i:Nat}(hn:n0<g.length)(h0:n0∉out):cntP g out i=cntP g (out++[n0]) i+if ldB g n0 i=true then 1 else 0:=by
 unfold cntP
 rw[qlv (n0:=n0) _ qEt]
 grind
def ahd (g:List (qFa))(out:List Nat)(i:Nat):Int:=if i∈out then -1 else (cntP g out i:Int)
theorem ahead0 {g:List (qFa)}(hg:Gr g):lens (tn g)=ti g.length (ahd g []):=by
 refine qoh (by grind [qgN,lens,qhr]) fun t ht=>?_
 have htn:t<g.length:=by grind [lens,qhr]
 have htl:t<(tn g).length:=by rw[qhr];omega
 rw[qtZ htn]
 have hr:(tn g)[t]?=some (tn g)[t]:=qCb htl
 have e1:gD (lens (tn g)) t=((tn g)[t].length:Int):=by grind [gD,lens]
 have e2:(tn g)[t]=iz ((qCz g.length).filter fun k=>ldB g k t):=by
  refine pwx ((qme hg).2.1 _ (qCs htl)).1 (qBM (List.pairwise_lt_range.filter _)) fun z=>?_
  unfold iz
  rw[qCK]
  constructor
  ·intro hz
   have hz0:=((qme hg).2.1 _ (qCs htl)).2 z hz
   obtain ⟨k,rfl⟩:=qCd hz0.1
   rw[qhr] at hz0
   refine ⟨k,qDd.2 ⟨qDq.2 (by omega),?_⟩,rfl⟩
   rw[qib,← qwg hg]
   grind [qfR]
  ·rintro ⟨k,hk,rfl⟩
   have:=(qDd.1 hk).2
   rw[qib,← qwg hg] at this
   grind [qfR]
 grind [qdH,ahd,cntP]
theorem qwB {F n0:Nat}{g:List (qFa)}{out:List Nat}{r:qFa}{o:qFa}{rec18:(qFa×qFa)→Option (qFa×Int)}(hg:Gr g)(hr:g[n0]?=some r)(hno:∀ i,i∈out++[n0]→¬ Ld g n0 i):∀ (k j:Nat),r.length<k+j→j≤r.length →
  qa2 F rec18 o (n0:Int) r k (ti g.length (fun i=>if i∈out++[n0] then -1 else (cntP g out i:Int)-if (i:Int)∈r.take j then 1 else 0),(j:Int))=qa1 F rec18 o (n0:Int) (ti g.length fun i=>if i∈out++[n0] then -1 else (cntP g out i:Int)-if (i:Int)∈r then 1 else 0)
 | 0,_,_,_=>by omega
 | k+1,j,h,hj=>by
  have h100:=hg.1
  have hrm:=qCe hr
  have hrl:=qcd hg hrm
  have hrg:=hg.2.1 r hrm
  show qcT F rec18 o (n0:Int) r (qa2 F rec18 o (n0:Int) r k) (ti g.length (fun i=>if i∈out++[n0] then -1 else (cntP g out i:Int)-if (i:Int)∈r.take j then 1 else 0)) (j:Int)=_
  unfold qcT
  by_cases hlt:j<r.length
  ·have hx:=hrg.2 r[j] (qCs hlt)
   obtain ⟨x,hx1⟩:=qCd hx.1
   have hxN:x<g.length:=by omega
   have hld:Ld g n0 x:=qfR.2 ⟨r,hr,by grind⟩
   have hxo:x∉out++[n0]:=fun hm=>hno x hm hld
   have hnew:¬ (x:Int)∈r.take j:=by
    grind [List.getElem_of_mem,qCT]
   have hcb:cntP g out x≤g.length:=by
    grind [cntP]
   rw[if_pos (by simp_all),qk,qCb hlt,hx1]
   simp only[qCa]
   rw[qk,qhp hxN]
   simp only[qCa]
   unfold lett
   rw[if_neg hxo,if_neg hnew,qCf,zN (by omega) (by omega),qp (by omega),qo4]
   have e:(ti g.length fun i=>if i=x then (cntP g out x:Int)-0-1 else if i∈out++[n0] then -1 else (cntP g out i:Int)-if (i:Int)∈r.take j then 1 else 0)=ti g.length fun i=>if i∈out++[n0] then -1 else (cntP g out i:Int)-if (i:Int)∈r.take (j+1) then 1 else 0:=by
    refine qjT fun i _=>?_
    have hm:((i:Int)∈r.take (j+1))↔((i:Int)∈r.take j∨i=x):=by
     grind [jF]
    grind
   show qa2 F rec18 o (n0:Int) r k (ti g.length (fun i=>if i=x then (cntP g out x:Int)-0-1 else if i∈out++[n0] then -1 else (cntP g out i:Int)-if (i:Int)∈r.take j then 1 else 0),((j+1:Nat):Int))=_
   rw[e]
   exact qwB hg hr hno k (j+1) (by omega) (by omega)
  grind
theorem qlB {F:Nat}{l:qFa}{v:Int}(hm:l.length≤1000000)(hno:∀ j:Nat,l[j]?≠some v):∀ (k i:Nat),l.length<k+i→i≤l.length→q6 F l v k (i:Int)=some (-1)
 | 0,_,_,_=>by omega
 | k+1,i,h,hi=>by
  show q5 F l v (q6 F l v k) (i:Int)=_
  unfold q5
  by_cases hlt:i<l.length
  ·have:=hno i
   rw[qCb hlt] at this
   rw[if_pos (by simp_all),qk,qCb hlt]
   simp only[qCa]
   rw[if_neg (by grind),qp (by omega)]
   exact qlB hm hno k (i+1) (by omega) (by omega)
  ·rw[if_neg (by simp_all)]
   rfl
def ordR (x:Option (List Nat)):qFa×Int:=match x with | none=>([],4) | some o=>(iz o,0)
theorem qti {F:Nat}{g:List (qFa)}(hF:4000≤F)(hg:Gr g):∀ (m k:Nat) (out:List Nat),m<k→out.length+m=g.length→OI g out→vW F g k (ti g.length (ahd g out),iz out)=some (ordR (ordM g m out))
 | m,0,_,h,_,_=>by omega
 | m,k+1,out,h,hm,ho=>by
  have h100:=hg.1
  show qcS F g (vW F g k) (ti g.length (ahd g out)) (iz out)=_
  unfold qcS
  rw[qdH,qgN]
  cases m with
  | zero =>
   rw[if_neg (by simp_all)]
   rfl
  | succ m =>
   rw[if_pos (by grind)]
   unfold zE
   have hz:∀ i,i<g.length→((ti g.length (ahd g out))[i]?=some 0↔free g out i=true):=by
    grind [qhp,ahd,qjt,qul]
   cases hn:nxO g out with
   | none =>
    have:=qlB (F:=F) (l:=ti g.length (ahd g out)) (v:=0) (by rw[qgN];omega) (fun j=>by
     grind [qwy,qgN]) F 0 (by rw[qgN];omega) (by omega)
    rw[show ((0:Nat):Int)=0 from rfl] at this
    rw[this]
    simp only[qCa]
    rw[if_pos (by decide)]
    simp only[ordM,hn]
    rfl
   | some i =>
    obtain ⟨hi,hf,hl⟩:=qqd hn
    have:=qoq (F:=F) (l:=ti g.length (ahd g out)) (v:=0) (p:=i) (by rw[qgN];omega) ((hz i hi).2 hf) (fun j hj he=>by
     grind) F 0 (by rw[qgN];omega) (by omega)
    rw[show ((0:Nat):Int)=0 from rfl] at this
    rw[this]
    simp only[qCa]
    obtain ⟨f1,f2⟩:=qjt.1 hf
    have hr:g[i]?=some g[i]:=qCb hi
    have hrl:=qcd hg (qCs hi)
    have hno:∀ x,x∈out++[i]→¬ Ld g i x:=fun x hx hld=>by
     rcases qCg.1 hx with hx | hx
     ·exact f1 (ho.pre x hx i hld)
     simp_all
    rw[if_neg (by simp),qk,qhp hi]
    simp only[qCa]
    unfold lett
    rw[qCf,qk,hr]
    simp only[qCa]
    have hstart:(ti g.length (ahd g out)).set i (-1)=ti g.length fun x=>if x∈out++[i] then -1 else (cntP g out x:Int)-if (x:Int)∈(g[i]).take 0 then 1 else 0:=by
     grind [qo4,ahd]
    have hin:=qwB (F:=F) (out:=out) (o:=iz out) (rec18:=vW F g k) hg hr hno F 0 (by omega) (by omega)
    rw[show ((0:Nat):Int)=0 from rfl,← hstart] at hin
    rw[hin]
    unfold qa1
    rw[kY (by grind [qdH])]
    simp only[qCa]
    have hend:(ti g.length fun x=>if x∈out++[i] then -1 else (cntP g out x:Int)-if (x:Int)∈g[i] then 1 else 0)=ti g.length (ahd g (out++[i])):=by
     refine qjT fun x _=>?_
     grind [ahd,quk,qfR,qib]
    have hz2:iz out++[(i:Int)]=iz (out++[i]):=by simp[iz]
    rw[hend,hz2,qti hF hg m k (out++[i]) (by omega) (by grind) (ho.snoc hg hi hf)]
    simp only[ordM,hn]
theorem qvi {g:List (qFa)}(hF:4000≤F):qdz F g=some (if gchk g≠0 then ([],gchk g) else ordR (ordL g)):=by
 unfold qdz
 rw[qrs (by omega)]
 simp only[qCa]
 unfold degM
 by_cases h:gchk g=0
 ·have hg:=yC.1 h
  have h100:=hg.1
  have hn:¬ gchk g≠0:=by omega
  rw[if_neg hn,if_neg hn,if_neg (by simp)]
  simp only
  rw[ahead0 hg]
  exact qti hF hg g.length F [] (by omega) (by simp) ⟨qDy,fun i hi=>by grind,fun i hi=>by grind⟩
 simp_all
def dg (g:List (qFa))(S:Nat→Bool)(v:Nat):Nat:=(qCz g.length).countP fun u=>S u && Nb g v u
def KK (g:List (qFa))(k:Nat)(S:Nat→Bool):Prop:=∀ v,v<g.length→S v=true→k≤dg g S v
structure IsCore (g:List (qFa)) (c:Nat→Nat):Prop where
 own:∀ v,v<g.length→c v≤dg g (fun u=>decide (c v≤c u)) v
 max:∀ k S,KK g k S→∀ v,v<g.length→S v=true→k≤c v
theorem qsR {g:List (qFa)}{S T:Nat→Bool}{v:Nat}(h:∀ u,u<g.length→S u=true→T u=true):dg g S v≤dg g T v:=by
 simp_all [dg,List.countP_mono_left]
theorem qhf {p:Nat→Bool}{a:Nat}:∀ {l:List Nat},l.Nodup→a∈l→l.countP p=l.countP (fun u=>p u && decide (u≠a))+if p a then 1 else 0
 | [],_,h=>by grind
 | b::l,hn,h=>by
  obtain ⟨h1,h2⟩:=qDm.1 hn
  rw[List.countP_cons,List.countP_cons]
  rcases qCj.1 h with rfl | h
  ·grind [List.countP_congr]
  ·have hne:b≠a:=fun he=>h1 (he▸h)
   rw[qhf h2 h]
   grind
def sub1 (S:Nat→Bool)(a:Nat):Nat→Bool:=fun u=>S u && decide (u≠a)
theorem qvK {g:List (qFa)}{S:Nat→Bool}{a v:Nat}(ha:a<g.length)(hs:S a=true):dg g S v=dg g (sub1 S a) v+if Nb g v a then 1 else 0:=by
 unfold dg
 rw[qhf (a:=a) qEt (qDq.2 ha)]
 grind [sub1]
def Best (L:qFa)(b:Int)(i:Nat):Prop :=
 (b=-1∧∀ j,j<i→L.getD j 0<0)∨∃ v:Nat,v<i∧b=(v:Int)∧0≤L.getD v 0∧∀ j,j<i→0≤L.getD j 0→L.getD v 0≤L.getD j 0
variable {f:Bool}{B K N a back hw k lw many most node t w:Int}{R:List (Int×Int)}{lim p r:Nat}{α:Type}{L S b hb lb s x xh xl:qFa}
theorem qs1 {i:Nat}(h:i<L.length):L.getD i 0=L[i]:=by simp_all
theorem qs8 {F:Nat}{L:qFa}(hm:L.length≤1000000):∀ (k i:Nat) (b:Int),L.length<k+i→i≤L.length→Best L b i→∃ b',kI F L k (b,(i:Int))=some (b',L)∧Best L b' L.length
 | 0,_,_,_,_,_=>by omega
 | k+1,i,b,h,hi,hb=>by
  show ∃ b',qap F L (kI F L k) b (i:Int)=some (b',L)∧_
  unfold qap vp vo vn
  by_cases hlt:i<L.length
  ·have hgi:=qs1 hlt
   have hrec:=fun b=>qs8 (F:=F) hm k (i+1) b (by omega) (by omega)
   rw[if_pos (by simp;omega),qk,qCb hlt]
   simp only[qCa]
   rw[qp (by omega)]
   have stay:(L[i]<0∨∃ v:Nat,v<i∧b=(v:Int)∧L.getD v 0≤L[i])→Best L b (i+1):=by
    intro hc
    rcases hb with ⟨hb1,hb2⟩ | ⟨v,hv,hb1,hb2,hb3⟩
    ·rcases hc with hc | ⟨v,_,hc,_⟩
     ·refine .inl ⟨hb1,fun j hj=>?_⟩
      by_cases hji:j=i
      ·subst hji;omega
      ·exact hb2 j (by omega)
     ·omega
    ·refine .inr ⟨v,by omega,hb1,hb2,fun j hj h0=>?_⟩
     by_cases hji:j=i
     ·subst hji
      rcases hc with hc | ⟨v',_,hc1,hc2⟩
      ·omega
      ·have:v'=v:=by omega
       subst this;omega
     ·exact hb3 j (by omega) h0
   by_cases h0:0≤L[i]
   ·rw[if_pos (by simpa using h0)]
    by_cases hb0:b<0
    ·rw[if_pos (by simpa using hb0),if_pos trivial]
     refine hrec _ (.inr ⟨i,by omega,rfl,by omega,fun j hj h1=>?_⟩)
     by_cases hji:j=i
     ·subst hji;omega
     ·rcases hb with ⟨_,hb2⟩ | ⟨v,hv,hb1,_⟩
      ·have:=hb2 j (by omega);omega
      ·omega
    ·rw[if_neg (by simpa using hb0)]
     rcases hb with ⟨hb1,_⟩ | ⟨v,hv,hb1,hb2,hb3⟩
     ·omega
     ·have hgv:=qs1 (show v<L.length by omega)
      rw[hb1,qk,qCb (by omega)]
      simp only[qCa]
      by_cases hc:L[i]<L[v]
      ·rw[if_pos (by simpa using hc)]
       refine hrec _ (.inr ⟨i,by omega,rfl,by omega,fun j hj h1=>?_⟩)
       by_cases hji:j=i
       ·subst hji;omega
       ·have:=hb3 j (by omega) h1;omega
      ·rw[if_neg (by simpa using hc),← hb1]
       exact hrec _ (stay (.inr ⟨v,hv,hb1,by omega⟩))
   ·rw[if_neg (by simpa using h0),if_neg (by simp)]
    exact hrec _ (stay (.inl (by omega)))
  ·rw[if_neg (by simp;omega)]
   refine ⟨b,rfl,?_⟩
   rw[show L.length=i from by omega];exact hb
theorem qm5 {X:List (qFa)}(hm:L.length≤1000000)(hF:L.length<F):∃ b',vG F X L=some (b',L)∧Best L b' L.length:=by
 unfold vG
 exact qs8 hm F 0 (-1) (by omega) (by omega) (.inl ⟨rfl,by omega⟩)
def dl (n:Nat)(L:qFa)(r:List Nat):qFa:=(qCz n).map fun u=>if decide (u∈r) && decide (0≤L.getD u 0) then L.getD u 0-1 else L.getD u 0
theorem qvN (n:Nat)(L:qFa)(r:List Nat):(dl n L r).length=n:=by simp[dl]
theorem qAE {n:Nat}{r:List Nat}{u:Nat}(h:u<n):(dl n L r)[u]?=some (if decide (u∈r) && decide (0≤L.getD u 0) then L.getD u 0-1 else L.getD u 0):=by simp[dl,h]
theorem qvP {F n:Nat}{L:qFa}{r:List Nat}(hr:∀ x∈r,x<n)(hnd:r.Nodup)(hL:∀ u,u<n→-1≤L.getD u 0∧L.getD u 0≤1000000)(hm:r.length≤1000000):∀ (k j:Nat),r.length<k+j→j≤r.length →
  jc F (r.map fun (x:Nat)=>(x:Int)) k ((j:Int),dl n L (r.take j))=some (dl n L r)
 | 0,_,_,_=>by omega
 | k+1,j,h,hj=>by
  show qbv F (r.map fun (x:Nat)=>(x:Int)) (jc F (r.map fun (x:Nat)=>(x:Int)) k) (j:Int) (dl n L (r.take j))=_
  unfold qbv jb
  by_cases hlt:j<r.length
  ·have hrec:=qvP (F:=F) hr hnd hL hm k (j+1) (by omega) (by omega)
   have hx:=hr _ (qCs hlt)
   have hni:r[j]∉r.take j:=fun hmem=>by
    grind [qEd,List.getElem_inj]
   have hv:(dl n L (r.take j))[r[j]]?=some (L.getD r[j] 0):=by grind [qAE]
   have hLx:=hL _ hx
   have hiff:∀ u,u∈r.take (j+1)↔u∈r.take j∨u=r[j]:=fun u=>by grind [jF]
   rw[if_pos (by simp_all),qk,List.getElem?_map,qCb hlt]
   simp only[qC8,qCa]
   rw[qk,hv]
   simp only[qCa]
   by_cases h0:0≤L.getD r[j] 0
   ·rw[if_pos (by grind),zN (by omega) (by omega)]
    simp only[lett,qCf]
    rw[qp (by omega)]
    have e:(dl n L (r.take j)).set r[j] (L.getD r[j] 0-1)=dl n L (r.take (j+1)):=by
     apply qC3 (by simp[dl])
     intro u h1 h2
     rw[qvN] at h2
     rw[qEX]
     simp only[dl,qEc,qDQ]
     grind
    simp_all
   ·rw[if_neg (by grind),qp (by omega)]
    have e:dl n L (r.take j)=dl n L (r.take (j+1)):=by
     apply qC3 (by simp[dl])
     intro u h1 h2
     simp only[dl,qEc,qDQ]
     grind
    simp_all
  grind
def lfC (g:List (qFa))(S:Nat→Bool):qFa:=(qCz g.length).map fun v=>if S v then (dg g S v:Int) else -1
theorem qgG (g:List (qFa))(S:Nat→Bool):(lfC g S).length=g.length:=by simp[lfC]
theorem qow {g:List (qFa)}{S:Nat→Bool}{v:Nat}(h:v<g.length):(lfC g S)[v]?=some (if S v then (dg g S v:Int) else -1):=by simp[lfC,h]
theorem qjy {g:List (qFa)}{S:Nat→Bool}{v:Nat}(h:v<g.length):(lfC g S).getD v 0=if S v then (dg g S v:Int) else -1:=by grind [qow]
theorem qvJ (g:List (qFa))(S:Nat→Bool)(v:Nat):dg g S v≤g.length:=by
 grind [dg,List.countP_le_length]
theorem qyv {v:Nat}{g : List (qFa)}{S : Nat → Bool}(hF : 2000 ≤ F)(hg : Gr g)(hv : v < g.length)(hS : S v = true) : qaP F (nr g) (lfC g S) (v : Int) = some (lfC g (sub1 S v)) := by
  have h1 := hg.1
  unfold qaP
  rw [qk, qow hv]
  simp only [qCa, lett, qCf]
  rw [qk, qgJ hv, qpJ]
  simp only [qCa]
  have hgd : ∀ u, u < g.length → ((lfC g S).set v (-1)).getD u 0 = if u = v then -1 else (lfC g S).getD u 0 := fun u hu => by
    unfold qDR
    rw [List.getElem?_set]
    by_cases h : v = u
    · subst h; rw [if_pos rfl, if_pos (by rw [qgG]; omega), if_pos rfl]; rfl
    grind
  have hd0 : (lfC g S).set v (-1) = dl g.length ((lfC g S).set v (-1)) ((nbs g v).take 0) := by
    apply qC3 (by simp [dl, lfC])
    simp_all [dl]
  have := qvP (F := F) (n := g.length) (L := (lfC g S).set v (-1)) (r := nbs g v) (fun x hx => (qzQ hg ((qoy hg).1 hx)).2) ((qAX g v).imp fun h => by omega) (fun u hu => by
    grind [qjy, qvJ]) (by grind [qtf]) F 0 (by grind [qtf]) (by omega)
  rw [← hd0] at this
  refine Eq.trans this ?_
  congr 1
  apply qC3 (by simp [dl, lfC])
  intro u b1 b2
  rw [qvN] at b1
  simp only [dl, lfC, qEc, qDQ]
  have hgu := hgd u b1
  rw [qjy b1] at hgu
  unfold lfC at hgu
  rw [hgu]
  by_cases huv : u = v
  · subst huv
    rw [if_pos rfl]
    simp [sub1]
  · rw [if_neg huv]
    have hsub : sub1 S v u = S u := by simp [sub1, huv]
    rw [hsub]
    by_cases hSu : S u = true
    · rw [if_pos hSu, if_pos hSu]
      have hm := qvK (g := g) (S := S) (a := v) (v := u) hv hS
      have hmem : decide (u ∈ nbs g v) = Nb g u v := by rw [qAp]; by_cases h : Nb g v u = true
                                                        · grind [qoy]
                                                        · rw [qEY] at h; grind [qoy]
      grind
    grind
structure PInv (g:List (qFa)) (S:Nat→Bool) (c:Nat→Nat) (most:Nat):Prop where
 le:∀ v,v<g.length→S v=false→c v≤most
 ub:∀ k T,KK g k T→(∀ v,v<g.length→T v=true→S v=false→k≤c v)∧((∃ v,v<g.length∧T v=true∧S v=false)→k≤most)
 cur:∃ R,KK g most R∧(∀ u,u<g.length→S u=true→R u=true)∧∀ u,u<g.length→R u=true→S u=false→most≤c u
 own:∀ v,v<g.length→S v=false→∃ T,T v=true∧KK g (c v) T∧∀ u,u<g.length→T u=true→S u=false→c v≤c u
def updC (c:Nat→Nat)(a x:Nat):Nat→Nat:=fun v=>if v=a then x else c v
theorem quG {g:List (qFa)}{S:Nat→Bool}{c:Nat→Nat}{most a:Nat}(h:PInv g S c most)(ha:a<g.length)(hSa:S a=true)(hmin:∀ u,u<g.length→S u=true→dg g S a≤dg g S u) :
  PInv g (sub1 S a) (updC c a (max most (dg g S a))) (max most (dg g S a)):=by
 have hs:∀ v,sub1 S a v=false→v≠a→S v=false:=fun v h1 h2=>by simpa[sub1,h2] using h1
 have cur':∃ R,KK g (max most (dg g S a)) R∧R a=true∧(∀ u,u<g.length→sub1 S a u=true→R u=true)∧∀ u,u<g.length→R u=true→sub1 S a u=false→max most (dg g S a)≤updC c a (max most (dg g S a)) u:=by
  by_cases hd:dg g S a≤most
  ·obtain ⟨R,r1,r2,r3⟩:=h.cur
   rw[Nat.max_eq_left hd]
   refine ⟨R,r1,r2 a ha hSa,fun u hu hsu=>r2 u hu (by grind [sub1]),fun u hu hRu hsu=>?_⟩
   unfold updC
   grind
  ·rw[Nat.max_eq_right (by omega)]
   refine ⟨S,fun u hu hSu=>hmin u hu hSu,hSa,fun u hu hsu=>by grind [sub1],fun u hu hRu hsu=>?_⟩
   unfold updC
   grind
 have hle:most≤max most (dg g S a):=Nat.le_max_left _ _
 have key:∀ k T,KK g k T→T a=true→k≤max most (dg g S a):=fun k T hT hTa=>by
  by_cases hex:∃ v,v<g.length∧T v=true∧S v=false
  ·exact qC5 ((h.ub k T hT).2 hex) hle
  ·have hsub:∀ u,u<g.length→T u=true→S u=true:=fun u hu hTu=>by
    simp_all
   exact qC5 (hT a ha hTa) (qC5 (qsR hsub) (Nat.le_max_right _ _))
 refine ⟨fun v hv hsv=>?_,fun k T hT=>⟨fun v hv hTv hsv=>?_,?_⟩,?_,fun v hv hsv=>?_⟩
 ·unfold updC
  by_cases hva:v=a
  ·simp_all
  ·rw[if_neg hva];exact qC5 (h.le v hv (hs v hsv hva)) hle
 ·unfold updC
  by_cases hva:v=a
  ·grind
  ·rw[if_neg hva];exact (h.ub k T hT).1 v hv hTv (hs v hsv hva)
 ·rintro ⟨v,hv,hTv,hsv⟩
  by_cases hva:v=a
  ·grind
  ·exact qC5 ((h.ub k T hT).2 ⟨v,hv,hTv,hs v hsv hva⟩) hle
 ·grind
 ·by_cases hva:v=a
  ·obtain ⟨R,r1,r0,r2,r3⟩:=cur'
   subst hva
   have e:updC c v (max most (dg g S v)) v=max most (dg g S v):=if_pos rfl
   grind
  ·obtain ⟨T,t1,t2,t3⟩:=h.own v hv (hs v hsv hva)
   grind [updC]
theorem quF {g:List (qFa)}{S:Nat→Bool}{c:Nat→Nat}{most:Nat}(h:PInv g S c most)(hS:∀ v,v<g.length→S v=false):IsCore g c:=by
 refine ⟨fun v hv=>?_,fun k T hT v hv hTv=>(h.ub k T hT).1 v hv hTv (hS v hv)⟩
 obtain ⟨T,t1,t2,t3⟩:=h.own v hv (hS v hv)
 exact qC5 (t2 v hv t1) (qsR fun u hu hTu=>decide_eq_true (t3 u hu hTu (hS u hu)))
def nlC (n:Nat)(c:Nat→Nat):qFa:=(qCz n).map fun v=>(c v:Int)
theorem qwu {n v:Nat}{c:Nat→Nat}(h:v<n):(nlC n c)[v]?=some (c v:Int):=by simp[nlC,h]
theorem qAZ {n a x:Nat}{c:Nat→Nat}:(nlC n c).set a (x:Int)=nlC n (updC c a x):=by
 apply qC3 (by simp[nlC])
 grind [nlC,updC]
def cntS (n:Nat)(S:Nat→Bool):Nat:=(qCz n).countP S
theorem qrm {n a:Nat}{S:Nat→Bool}(ha:a<n)(hs:S a=true):cntS n S=cntS n (sub1 S a)+1:=by
 unfold cntS
 rw[qhf (a:=a) qEt (qDq.2 ha),if_pos hs]
 rfl
theorem qjC {F:Nat}{g:List (qFa)}(hF:2000≤F)(hg:Gr g):∀ (k:Nat) (S:Nat→Bool) (c:Nat→Nat) (most:Nat) (b:Int),cntS g.length S<k→PInv g S c most→Best (lfC g S) b g.length→most≤1000000 →
  ∃ c',IsCore g c'∧qdb F (nr g) k (nlC g.length c,(most:Int),b,lfC g S)=some (nlC g.length c',0)
 | 0,_,_,_,_,h,_,_,_=>by omega
 | k+1,S,c,most,b,h,hp,hb,hm=>by
  have h1:=hg.1
  show ∃ c',IsCore g c'∧qc9 F (nr g) (qdb F (nr g) k) (nlC g.length c) (most:Int) b (lfC g S)=_
  unfold qc9
  rcases hb with ⟨hb1,hb2⟩ | ⟨v,hv,hb1,hb2,hb3⟩
  ·rw[if_neg (by simp_all)]
   refine ⟨c,quF hp fun v hv=>?_,rfl⟩
   grind [qjy]
  ·have hSv:S v=true:=by
    grind [qjy]
   have hmin:∀ u,u<g.length→S u=true→dg g S v≤dg g S u:=fun u hu hSu=>by
    grind [qjy]
   have hdl:=qvJ g S v
   rw[if_pos (by simp_all),hb1,qk,qow hv,if_pos hSv]
   simp only[qCa]
   rw[qk,qwu hv]
   simp only[qCa,lett,qCf]
   have hmx:imax (most:Int) (dg g S v:Int)=((max most (dg g S v):Nat):Int):=by grind [imax]
   rw[hmx,qAZ,qyv hF hg hv hSv]
   simp only[qCa]
   obtain ⟨b',hl,hbb⟩:=qm5 (F:=F) (X:=nr g) (L:=lfC g (sub1 S v)) (by rw[qgG];omega) (by rw[qgG];omega)
   rw[hl]
   simp only[qCa]
   rw[qgG] at hbb
   have hc:=qrm hv hSv
   exact qjC hF hg k _ _ _ b' (by omega) (quG hp hv hSv hmin) hbb (by omega)
theorem qwj {F:Nat}{g:List (qFa)}(hg:Gr g):∀ (k i:Nat),g.length<k+i→i≤g.length→∀ L,L=(lfC g fun _=>true).take i →
  qdc F (nr g) k ((i:Int),L)=qbC F (nr g) (lfC g fun _=>true)
 | 0,_,_,_=>by omega
 | k+1,i,h,hi=>by
  have h1:=hg.1
  intro L hL
  show qda F (nr g) (qdc F (nr g) k) (i:Int) L=_
  unfold qda
  have hLl:L.length=i:=by grind [qgG]
  by_cases hlt:i<g.length
  ·rw[if_pos (by simp[qgK];omega),qk,qgJ hlt]
   simp only[qCa]
   rw[kY (by grind)]
   simp only[qCa]
   rw[qp (by omega)]
   refine qwj hg k (i+1) (by omega) (by omega) _ ?_
   rw[jF (by rw[qgG];omega),← hL]
   congr 2
   have:=qow (g:=g) (S:=fun _=>true) hlt
   grind [qpJ,dg,nbs]
  grind [qgK,qgG]
theorem qrS {g:List (qFa)}(hF:2000≤F)(hg:Gr g):∃ c,IsCore g c∧qc8 F g=some (nlC g.length c,0):=by
 have h1:=hg.1
 unfold qc8
 rw[vb (by omega),yC.2 hg]
 simp only[qCa]
 rw[if_neg (by simp),qtg hF hg]
 simp only[qCa]
 have hl:=qwj (F:=F) hg F 0 (by omega) (by omega) [] (by simp)
 rw[show ((0:Nat):Int)=0 from rfl] at hl
 rw[hl]
 unfold qbC
 obtain ⟨b',hl,hbb⟩:=qm5 (F:=F) (X:=nr g) (L:=lfC g fun _=>true) (by rw[qgG];omega) (by rw[qgG];omega)
 rw[qgG] at hbb
 have hmk:mk 17592186044416 (0:Int) ((nr g).length:Int)=some (nlC g.length fun _=>0):=by
  unfold mk
  rw[qgK,if_pos ⟨by omega,by omega⟩,qCf]
  congr 1
  apply qC3 (by simp[nlC])
  grind [nlC]
 rw[hmk,hl]
 simp only[qCa]
 have hcl:cntS g.length (fun _=>true)≤g.length:=by
  grind [cntS,List.countP_le_length]
 exact qjC hF hg F (fun _=>true) (fun _=>0) 0 b' (by omega) ⟨fun v _ h=>by omega,fun k T _=>⟨fun v _ _ h=>by grind,fun ⟨v,_,_,h⟩=>by grind⟩,⟨fun _=>true,fun v _ _=>qCH _,fun _ _ _=>rfl,fun _ _ _ h=>by omega⟩,fun v _ h=>by grind⟩ hbb (by omega)
theorem qAV {n:Nat}{y:α}(h:n≤lim):mk lim y (n:Int)=some (qCc n y):=by
 unfold mk
 rw[if_pos ⟨by omega,by omega⟩,qCf]
def qbp {σ τ:Type}(yy:σ→qFa→Option (σ ⊕ τ)):List (qFa)→σ→Option (σ ⊕ τ)
 | [],s=>some (.inl s)
 | r::R,s=>(yy s r).bind (Sum.elim (fun s'=>qbp yy R s') (fun t=>some (.inr t)))
theorem qho {σ τ:Type}{yy:σ→qFa→Option (σ ⊕ τ)}:∀ (A B:List (qFa)) (s:σ),qbp yy (A++B) s=(qbp yy A s).bind (Sum.elim (fun s'=>qbp yy B s') (fun t=>some (.inr t)))
 | [],B,s=>rfl
 | p::A,B,s=>by
  show (yy s p).bind _=((yy s p).bind _).bind _
  cases yy s p with
  | none=>rfl
  | some r =>
   cases r with
   | inl s'=>exact qho A B s'
   | inr t=>rfl
def rowX (X:List (qFa))(b:Int):qFa:=X.getD b.toNat []
def t3 (X:List (qFa))(a b:Int)(cs:qFa):List (qFa):=(cs.filter fun c=>decide (c∈rowX X b) && decide (a<b)).map fun c=>[a,b,c]
def t2 (X:List (qFa))(a:Int):qFa→List (qFa)
 | []=>[]
 | b::cs=>t3 X a b cs++t2 X a cs
def t1 (X:List (qFa))(i:Nat):List (qFa)→List (qFa)
 | []=>[]
 | l::R=>t2 X (i:Int) l++t1 X (i+1) R
def Rws (X:List (qFa)):Prop:=X.length≤100∧∀ l∈X,l.Pairwise (·<·)∧l.length≤100∧∀ x∈l,0≤x∧x<(X.length:Int)
theorem qAg {σ τ:Type}{F:Nat}{yy:σ→qFa→Option (σ ⊕ τ)}{X:List (qFa)}{a b:Int}{cs:qFa}{i:Nat}{rec163:(Int×σ)→Option (σ ⊕ τ)}(hF:200000≤F)(hX:Rws X)(hb:0≤b∧b<(X.length:Int))(hm:cs.length≤1000000):∀ (k j:Nat) (s:σ),cs.length<k+j→j≤cs.length →
  yf F yy rec163 X a (i:Int) b cs k ((j:Int),s)=(qbp yy (t3 X a b (cs.drop j)) s).bind (Sum.elim (fun s'=>jO F yy rec163 (i:Int) s') (fun t=>some (.inr t)))
 | 0,_,_,_,_=>by omega
 | k+1,j,s,h,hj=>by
  show jM F yy rec163 X a (i:Int) b cs (yf F yy rec163 X a (i:Int) b cs k) (j:Int) s=_
  unfold jM jP
  by_cases hlt:j<cs.length
  ·obtain ⟨bn,rfl⟩:=qCd hb.1
   have hbl:bn<X.length:=by omega
   have hrow:=hX.2 _ (qCs hbl)
   have hrec:=fun s=>qAg (F:=F) (yy:=yy) (X:=X) (a:=a) (b:=(bn:Int)) (i:=i) (rec163:=rec163) hF hX hb hm k (j+1) s (by omega) (by omega)
   rw[if_pos (by simp_all),qk,qCb hlt,qCk hlt]
   simp only[qCa]
   rw[qk,qCb hbl]
   simp only[qCa]
   obtain ⟨p,hp⟩:=qkq (F:=F) hF (v:=cs[j]) hrow.1 (by omega)
   rw[hp]
   simp only[qCa]
   rw[qp (by omega)]
   have e:rowX X (bn:Int)=X[bn]:=by grind [rowX]
   by_cases hc:(decide (cs[j]∈X[bn]) && decide (a<(bn:Int)))=true
   ·have e3:t3 X a (bn:Int) (cs[j]::cs.drop (j+1))=[a,(bn:Int),cs[j]]::t3 X a (bn:Int) (cs.drop (j+1)):=by
     grind [t3]
    rw[if_pos hc,e3]
    unfold qbp
    cases yy s [a,(bn:Int),cs[j]] with
    | none=>rfl
    | some r =>
     grind
   grind [t3]
  ·rw[if_neg (by simp_all),qCp (by omega)]
   rfl
theorem qxV {σ τ:Type}{F a:Nat}{yy:σ→qFa→Option (σ ⊕ τ)}{X:List (qFa)}{l:qFa}{rec115:(Int×σ)→Option (σ ⊕ τ)}(hF:200000≤F)(hX:Rws X)(hl:∀ x∈l,0≤x∧x<(X.length:Int))(hm:l.length≤100):∀ (k i:Nat) (s:σ),l.length<k+i→i≤l.length →
  zd F yy rec115 X (a:Int) l k ((i:Int),s)=(qbp yy (t2 X (a:Int) (l.drop i)) s).bind (Sum.elim (fun s'=>jN F yy rec115 (a:Int) s') (fun t=>some (.inr t)))
 | 0,_,_,_,_=>by omega
 | k+1,i,s,h,hi=>by
  show jL F yy rec115 X (a:Int) l (zd F yy rec115 X (a:Int) l k) (i:Int) s=_
  unfold jL
  by_cases hlt:i<l.length
  ·have hs:=qkN (l:=l) (i:=i+1) (j:=l.length) (by omega) (by omega)
   rw[qDv] at hs
   rw[if_pos (by simp_all),qk,qCb hlt,qCk hlt]
   simp only[qCa]
   rw[qp (by omega),hs]
   simp only[qCa]
   have hin:=qAg (F:=F) (yy:=yy) (X:=X) (a:=(a:Int)) (b:=l[i]) (cs:=l.drop (i+1)) (i:=i) (rec163:=zd F yy rec115 X (a:Int) l k) hF hX (hl _ (qCs hlt)) (by grind) F 0 s (by grind) (by omega)
   rw[qCJ] at hin
   refine Eq.trans hin ?_
   unfold t2
   rw[qho]
   cases qbp yy (t3 X (a:Int) l[i] (l.drop (i+1))) s with
   | none=>rfl
   | some r =>
    cases r with
    | inl s' =>
     simp only[qCa,Sum.elim_inl]
     unfold jO
     rw[qp (by omega)]
     exact qxV hF hX hl hm k (i+1) s' (by omega) (by omega)
    | inr t=>rfl
  ·rw[if_neg (by simp_all),qCp (by omega)]
   rfl
theorem qxW {σ τ:Type}{F:Nat}{yy:σ→qFa→Option (σ ⊕ τ)}{X:List (qFa)}(hF:200000≤F)(hX:Rws X):∀ (k a:Nat) (s:σ),X.length<k+a→a≤X.length →
  qN F yy X k ((a:Int),s)=qbp yy (t1 X a (X.drop a)) s
 | 0,_,_,_,_=>by omega
 | k+1,a,s,h,ha=>by
  have h1:=hX.1
  show jK F yy X (qN F yy X k) (a:Int) s=_
  unfold jK
  by_cases hlt:a<X.length
  ·have hrow:=hX.2 _ (qCs hlt)
   rw[if_pos (by simp_all),qk,qCb hlt,qCk hlt]
   simp only[qCa]
   have hin:=qxV (F:=F) (a:=a) (yy:=yy) (X:=X) (l:=X[a]) (rec115:=qN F yy X k) hF hX hrow.2.2 hrow.2.1 F 0 s (by omega) (by omega)
   rw[qCJ] at hin
   refine Eq.trans hin ?_
   unfold t1
   rw[qho]
   cases qbp yy (t2 X (a:Int) X[a]) s with
   | none=>rfl
   | some r =>
    cases r with
    | inl s' =>
     simp only[qCa,Sum.elim_inl]
     unfold jN
     rw[qp (by omega)]
     exact qxW hF hX k (a+1) s' (by omega) (by omega)
    | inr t=>rfl
  ·rw[if_neg (by simp_all),qCp (by omega)]
   rfl
def cntC (n:Nat)(l:qFa):qFa:=(qCz n).map fun (i:Nat)=>((l.count (i:Int):Nat):Int)
theorem qyo {n i:Nat}(h:i<n):(cntC n l)[i]?=some ((l.count (i:Int):Nat):Int):=by simp[cntC,h]
theorem qvz {n a:Nat}:(cntC n l).set a ((l.count (a:Int)+1:Nat):Int)=cntC n (l++[(a:Int)]):=by
 apply qC3 (by simp[cntC])
 intro i h1 h2
 rw[qEX]
 simp only[cntC,qEc,qDQ,List.count_append]
 grind
theorem qyp {n a:Nat}(ha:a<n)(hl:l.length≤lim)(hlim:lim≤1000000000):idx (cntC n l) (a:Int)=some ((l.count (a:Int):Nat):Int)∧(cntC n l).set a (iadd .i64 ((l.count (a:Int):Nat):Int) 1)=cntC n (l++[(a:Int)]):=by
 have:=List.count_le_length (a:=(a:Int)) (l:=l)
 exact ⟨by rw[qk,qyo ha],by rw[qp (by omega),qvz]⟩
theorem qxX {n:Nat}{al:Nat}{a b c:Nat}(hF:10≤F)(ha:a<n)(hb:b<n)(hc:c<n)(hl:l.length≤100000000)(hal:al≤100000000):ye F (al:Int) (cntC n l) [(a:Int),(b:Int),(c:Int)]=some (.inl (((al+1:Nat):Int),cntC n (l++[(a:Int),(b:Int),(c:Int)]))):=by
 obtain ⟨k,rfl⟩:=Nat.exists_eq_add_of_le hF
 unfold ye chk
 rw[if_pos (by simp),if_pos (by simp),qD0]
 have step:∀ (fu x i:Nat) (l:qFa) (m:qFa),x<n→l.length≤200000000→i<3→[(a:Int),(b:Int),(c:Int)][i]?=some (x:Int)→qao (k+10) (al:Int) [(a:Int),(b:Int),(c:Int)] (fu+1) ((i:Int),cntC n l)=qao (k+10) (al:Int) [(a:Int),(b:Int),(c:Int)] fu (((i+1:Nat):Int),cntC n (l++[(x:Int)])):=by
  intro fu x i l m hx hl hi hg
  show qan (k+10) (al:Int) [(a:Int),(b:Int),(c:Int)] (qao (k+10) (al:Int) [(a:Int),(b:Int),(c:Int)] fu) (i:Int) (cntC n l)=_
  unfold qan
  obtain ⟨e1,e2⟩:=qyp (n:=n) (a:=x) (l:=l) (lim:=200000000) hx hl (by omega)
  rw[if_pos (by simp;omega)]
  simp only[chk]
  rw[if_pos (by simp),qk,hg]
  simp only[qCa]
  rw[e1]
  simp only[qCa,lett,qCf]
  rw[e2,qp (by omega)]
 have h0:=step (k+9) a 0 l [] ha (by omega) (by omega) rfl
 have h1:=step (k+8) b 1 (l++[(a:Int)]) [] hb (by simp;omega) (by omega) rfl
 have h2:=step (k+7) c 2 (l++[(a:Int)]++[(b:Int)]) [] hc (by simp;omega) (by omega) rfl
 refine Eq.trans h0 (Eq.trans h1 (Eq.trans h2 ?_))
 show qan (k+10) (al:Int) [(a:Int),(b:Int),(c:Int)] (qao (k+10) (al:Int) [(a:Int),(b:Int),(c:Int)] (k+6)) ((3:Nat):Int) (cntC n (l++[(a:Int)]++[(b:Int)]++[(c:Int)]))=_
 unfold qan
 rw[if_neg (by simp),qp (by omega)]
 simp
def Tri (n:Nat)(x:qFa):Prop:=∃ a b c:Nat,x=[(a:Int),(b:Int),(c:Int)]∧a<n∧b<n∧c<n
theorem qtY {F n:Nat}{yy:(Int×qFa)→qFa→Option ((Int×qFa) ⊕ Empty)}(hF:10≤F)(hy:∀ s p,yy s p=ye F s.1 s.2 p):∀ (A acc:List (qFa)),(∀ x∈A,Tri n x)→(∀ x∈acc,Tri n x)→acc.length+A.length≤10000000 →
  qbp yy A ((acc.length:Int),cntC n acc.flatten)=some (.inl (((acc++A).length:Int),cntC n (acc++A).flatten))
 | [],acc,_,_,_=>by rw[qCM];rfl
 | p::A,acc,h,hacc,hm=>by
  rw[qCt] at hm
  obtain ⟨a,b,c,rfl,ha,hb,hc⟩:=h p (by simp)
  have hrec:=qtY hF hy A (acc++[[(a:Int),(b:Int),(c:Int)]]) (fun q hq=>h q (by grind)) (fun q hq=>by
   grind) (by grind)
  have hfl:∀ (L:List (qFa)),(∀ x∈L,Tri n x)→L.flatten.length=3*L.length:=by
   intro L
   induction L with
   | nil=>simp
   | cons x L ih =>
    intro hL
    obtain ⟨a',b',c',rfl,_⟩:=hL x (by simp)
    grind
  have:=hfl acc hacc
  show (yy _ _).bind _=_
  rw[hy,qxX hF ha hb hc (by omega) (by omega)]
  simp_all
theorem qAS {X:List (qFa)}{b:Int}{cs:qFa}:x∈t3 X a b cs↔∃ c,c∈cs∧c∈rowX X b∧a<b∧x=[a,b,c]:=by
 unfold t3
 grind
theorem qrN {X:List (qFa)}{a:Int}{x:qFa}:∀ {l:qFa},l.Pairwise (·<·)→(x∈t2 X a l↔∃ b c,b∈l∧c∈l∧b<c∧c∈rowX X b∧a<b∧x=[a,b,c])
 | [],_=>by simp[t2]
 | b::cs,h=>by
  obtain ⟨h1,h2⟩:=List.pairwise_cons.1 h
  unfold t2
  rw[qCg,qAS,qrN h2]
  grind
theorem qwo {X:List (qFa)}{x:qFa}:∀ {R:List (qFa)} {i:Nat},x∈t1 X i R↔∃ j l,R[j]?=some l∧x∈t2 X ((i+j:Nat):Int) l
 | [],i=>by simp[t1]
 | l::R,i=>by
  unfold t1
  rw[qCg,qwo (R:=R)]
  constructor
  ·rintro (h | ⟨j,l',h1,h2⟩)
   ·exact ⟨0,l,by simp,by omega⟩
   ·exact ⟨j+1,l',by grind,by grind⟩
  grind
theorem qxS {X:List (qFa)}{a:Int}:∀ (l:qFa),(t2 X a l).length≤l.length*l.length
 | []=>by simp[t2]
 | b::cs=>by
  have:=qxS (X:=X) (a:=a) cs
  grind [t3,t2,qDa,Nat.mul_add]
theorem qxR {X:List (qFa)}:∀ (R:List (qFa)) (i:Nat),(∀ l∈R,l.length≤100)→(t1 X i R).length≤10000*R.length
 | [],_,_=>by simp[t1]
 | l::R,i,h=>by
  have h1:=qxR (X:=X) R (i+1) fun l' hl=>h l' (by grind)
  have h2:=qxS (X:=X) (a:=(i:Int)) l
  have h3:l.length*l.length≤100*100:=qEl (h l (by simp)) (h l (by simp))
  grind [t1]
theorem qrQ {g:List (qFa)}(hg:Gr g):Rws (nr g):=by
 have h1:=hg.1
 refine ⟨by rw[qgK];omega,fun l hl=>?_⟩
 obtain ⟨i,hi⟩:=List.getElem?_of_mem hl
 have hlt:i<g.length:=by grind [qgK]
 rw[qgJ hlt] at hi
 cases hi
 refine ⟨((qfU hg).2 i _ (qgJ hlt)).1,qC5 (qvA _ _ _) h1,fun x hx=>?_⟩
 have:=qru (qhN hg) _ (((qfU hg).2 i _ (qgJ hlt)).2 x |>.1 hx)
 grind [qgK]
def th (g:List (qFa)):List (qFa):=t1 (nr g) 0 (nr g)
theorem qAT {g:List (qFa)}(hg:Gr g):x∈th g↔∃ a b c:Nat,x=[(a:Int),(b:Int),(c:Int)]∧a<b∧b<c∧c<g.length∧Nb g a b=true∧Nb g a c=true∧Nb g b c=true:=by
 have hr:=qrQ hg
 unfold th
 rw[qwo]
 have hrow:∀ (b:Nat) (z:Int),b<g.length→(z∈rowX (nr g) (b:Int)↔((b:Int),z)∈E g):=fun b z hb=>by
  unfold rowX
  rw[qCf,qDR,qgJ hb,Option.getD_some]
  exact ((qfU hg).2 b _ (qgJ hb)).2 z
 constructor
 ·rintro ⟨a,l,h1,h2⟩
  rw[qC0] at h2
  have hal:a<g.length:=by grind [qgK]
  have hl:=hr.2 l (qCe h1)
  have hm:=((qfU hg).2 a _ h1).2
  obtain ⟨b,c,c1,c2,c3,c4,c5,rfl⟩:=(qrN hl.1).1 h2
  have hb:=hl.2.2 b c1
  have hc:=hl.2.2 c c2
  rw[qgK] at hb hc
  obtain ⟨bn,rfl⟩:=qCd hb.1
  obtain ⟨cn,rfl⟩:=qCd hc.1
  refine ⟨a,bn,cn,rfl,by omega,by omega,by omega,decide_eq_true ((hm _).1 c1),decide_eq_true ((hm _).1 c2),decide_eq_true ((hrow bn _ (by omega)).1 c4)⟩
 ·rintro ⟨a,b,c,rfl,h1,h2,h3,n1,n2,n3⟩
  have hal:a<g.length:=by omega
  have hm:=((qfU hg).2 a _ (qgJ hal)).2
  refine ⟨a,_,qgJ hal,?_⟩
  rw[qC0]
  exact (qrN ((qfU hg).2 a _ (qgJ hal)).1).2 ⟨(b:Int),(c:Int),(hm _).2 (of_decide_eq_true n1),(hm _).2 (of_decide_eq_true n2),by omega,(hrow b _ (by omega)).2 (of_decide_eq_true n3),by omega,rfl⟩
theorem qBn {g:List (qFa)}(hg:Gr g):∀ x∈th g,Tri g.length x:=fun x hx=>by
 obtain ⟨a,b,c,rfl,h1,h2,h3,_⟩:=(qAT hg).1 hx
 exact ⟨a,b,c,rfl,by omega,by omega,h3⟩
theorem qxU {g:List (qFa)}(hg:Gr g):(th g).length≤1000000:=by
 have h1:=hg.1
 have:=qxR (X:=nr g) (nr g) 0 fun l hl=>((qrQ hg).2 l hl).2.1
 grind [th,qgK]
theorem qvf {g:List (qFa)}(hF:200000≤F)(hg:Gr g):qeh F g=some (cntC g.length (th g).flatten,((th g).length:Int),0):=by
 have h1:=hg.1
 unfold qeh
 rw[vb (by omega),yC.2 hg]
 simp only[qCa]
 rw[if_neg (by simp),qAV (by omega)]
 simp only[qCa]
 rw[qtg (by omega) hg]
 simp only[qCa]
 unfold qgk qeQ
 simp only[qCa]
 have ho:=qxW (F:=F) (yy:=fun (x:Int×qFa) x_1=>ye F x.1 x.2 x_1) hF (qrQ hg) F 0 (0,qCc g.length 0) (by rw[qgK];omega) (by omega)
 rw[qCJ] at ho
 have hf:=qtY (F:=F) (n:=g.length) (yy:=fun x x_1=>ye F x.1 x.2 x_1) (by omega) (fun _ _=>rfl) (th g) [] (qBn hg) (by simp) (by grind [qxU])
 have e0:cntC g.length ([]:List (qFa)).flatten=qCc g.length 0:=by
  apply qC3 (by simp[cntC])
  grind [cntC]
 rw[e0,qCA] at hf
 have hf':qbp (fun (x:Int×qFa) x_1=>ye F x.1 x.2 x_1) (t1 (nr g) 0 (nr g)) (0,qCc g.length 0)=_:=hf
 simp_all
def okB:Bool→qFa→Bool
 | _,[]=>true
 | f,n::bs=>decide (0≤n) && (f || decide (1≤n)) && okB false bs
def bsum:qFa→Int
 | []=>0
 | n::bs=>n+bsum bs
theorem qhU (f:Bool)(n:Int)(bs:qFa):okB f (n::bs)=(decide (0≤n) && (f || decide (1≤n)) && okB false bs):=rfl
theorem qoB:∀ {f:Bool} {bs:qFa},okB f bs=true→(∀ n∈bs,0≤n)∧0≤bsum bs
 | _,[],_=>by simp[bsum]
 | f,n::bs,h=>by
  unfold okB at h
  simp only[qCS,decide_eq_true_eq] at h
  obtain ⟨h1,h2⟩:=qoB h.2
  refine ⟨fun m hm=>?_,?_⟩
  ·grind
  grind [bsum]
def ccE (L:Int)(f:Bool)(t:Int)(bs:qFa):Int:=if okB f bs then (if L<t+bsum bs then 8 else 0) else 3
theorem qym (L:Int)(f:Bool)(t:Int):ccE L f t []=if L<t then 8 else 0:=by simp[ccE,okB,bsum]
theorem qsM {L:Int}{n:Int}{bs:qFa}(h:n<0∨(n<1∧f=false)):ccE L f t (n::bs)=3:=by
 unfold ccE okB
 grind
theorem qAC {L:Int}{n:Int}{bs:qFa}(h:¬ (n<0∨(n<1∧f=false))):ccE L f t (n::bs)=ccE L false (t+n) bs:=by
 have e:okB f (n::bs)=okB false bs:=by
  rw[qhU]
  grind
 grind [ccE,bsum]
theorem qyl {L:Int}{t':Int}{bs:qFa}(h:L<t)(h':L<t'):ccE L f t bs=ccE L f t' bs:=by
 unfold ccE
 by_cases ho:okB f bs=true
 ·have:=(qoB ho).2
  grind
 simp_all
theorem qqf {F:Nat}{bs:qFa}{L:Nat}(hL:L≤300)(hb:bs.length≤301):∀ (k i:Nat) (s:Int),bs.length<k+i→i≤bs.length→0≤s∧s≤L+1 →
  qbM F bs (L:Int) k (s,(i:Int))=some (ccE L (decide (i=0)) s (bs.drop i))
 | 0,_,_,_,_,_=>by omega
 | k+1,i,s,h,hi,hs=>by
  show qds F bs (L:Int) (qbM F bs (L:Int) k) s (i:Int)=_
  unfold qds
  by_cases hlt:i<bs.length
  ·rw[if_pos (by simp_all),qk,qCb hlt,qCk hlt]
   simp only[qCa]
   have hrec:=fun s hs=>qqf (F:=F) hL hb k (i+1) s (by omega) (by omega) hs
   rw[decide_eq_false (show ¬ i+1=0 by omega)] at hrec
   generalize bs[i]=n at hrec ⊢
   generalize bs.drop (i+1)=R at hrec ⊢
   unfold qbL
   by_cases h1:n<0
   ·rw[if_pos (by grind),if_pos rfl,qsM (.inl h1)]
   ·rw[if_neg (by grind)]
    by_cases h2:n<1∧0<i
    ·grind [qsM]
    ·have h3:¬ (n<0∨(n<1∧decide (i=0)=false)):=by
      simp_all
     rw[if_neg (by simp_all),qAC h3]
     unfold lett
     have em:imin n (iadd .i64 (L:Int) 1)=if n≤L then n else (L:Int)+1:=by
      grind [zn,imin]
     grind [zn,imin,qyl]
  grind [qym,qdt]
def bkE (L:Nat)(bs:qFa):Int:=if L+1<bs.length then 2 else ccE L true 0 bs
theorem quD (hF:200000≤F){bs:qFa}{L:Nat}(hL:L≤300):qep F bs (L:Int)=some (bkE L bs):=by
 grind [qep,bkE,qp,qqf]
theorem qAy {L:Nat}{bs:qFa}:bkE L bs=0↔bs.length≤L+1∧okB true bs=true∧bsum bs≤L:=by
 grind [bkE,ccE]
def cp:qFa→qFa→Bool→qFa
 | l,[],c=>if c then l else []
 | l,n::bs,c=>(if c then l.take n.toNat else [])++cp (l.drop n.toNat) bs (!c)
theorem qpK {F:Nat}{bs:qFa}(hbm:bs.length≤1000):∀ (k i:Nat) (l o:qFa) (c:Bool),bs.length<k+i→i≤bs.length→l.length≤300→o.length≤300*i→(∀ n∈bs.drop i,0≤n)→bsum (bs.drop i)≤l.length →
  qaX F bs k (l,o,c,(i:Int))=some (o++cp l (bs.drop i) c)
 | 0,_,_,_,_,_,_,_,_,_,_=>by omega
 | k+1,i,l,o,c,h,hi,hl,ho,hn,hs=>by
  show qcR F bs (qaX F bs k) l o c (i:Int)=_
  unfold qcR
  by_cases hlt:i<bs.length
  ·rw[qCk hlt] at hn hs ⊢
   have hrec:=fun l o c h1 h2 h3=>qpK (F:=F) hbm k (i+1) l o c (by omega) (by omega) h1 h2 (fun n hn'=>hn n (qCx _ hn')) h3
   have hg:idx bs (i:Int)=some bs[i]:=by grind [qk]
   rw[if_pos (by simp_all),hg]
   have h0:=hn bs[i] (qCu ..)
   have hsum:0≤bsum (bs.drop (i+1)):=by
    have:∀ (R:qFa),(∀ n∈R,0≤n)→0≤bsum R:=by
     intro R
     induction R with
     | nil=>intro _;simp[bsum]
     | cons x R ih=>intro h;unfold bsum;have:=h x (by simp);grind
    grind
   unfold bsum at hs
   generalize bs[i]=n at hrec h0 hs ⊢
   obtain ⟨m,rfl⟩:=qCd h0
   have hml:m≤l.length:=by omega
   have s1:=qkN (l:=l) (i:=0) (j:=m) (by omega) hml
   have s2:=qkN (l:=l) (i:=m) (j:=l.length) hml (qCq _)
   rw[qDv] at s2
   rw[show ((0:Nat):Int)=0 from rfl,qCJ] at s1
   simp only[qCa]
   unfold qaW cp
   simp only[qCf]
   cases c
   ·grind [qp]
   ·rw[if_pos rfl,if_pos rfl,s1]
    grind [kY,qp]
  ·rw[if_neg (by simp_all),qCp (by omega)]
   unfold qdu qbN cp
   cases c
   ·simp
   ·rw[if_pos rfl,kY (by omega)];simp
def cpE (l bs:qFa):Int:=if gkc l≠0 then gkc l else bkE l.length bs
def cpy (l bs:qFa):qFa×Int:=if cpE l bs≠0 then ([],cpE l bs) else (cp l bs true,0)
theorem qvB {bs:qFa}:cpE l bs=0↔(l.length≤300∧Ris (-1) l)∧bs.length≤l.length+1∧okB true bs=true∧bsum bs≤l.length:=by
 grind [cpE,vz,qAy]
theorem qvD {bs:qFa}(h:cpE l bs=0):cpy l bs=(cp l bs true,0):=by grind [cpy]
theorem qys {bs:qFa}(h:cpE l bs≠0):cpy l bs=([],cpE l bs):=by grind [cpy]
theorem qyB (h:gkc l=0):l.length≤300:=(vz.1 h).1
theorem qyq (hF:200000≤F){bs:qFa}:qfc F l bs=some (cpy l bs):=by
 unfold qfc
 rw[qgU (by omega)]
 simp only[qCa]
 have hj:qbd F l bs (cpE l bs)=some (cpy l bs):=by
  unfold qbd
  by_cases h:cpE l bs=0
  ·obtain ⟨⟨h1,h2⟩,h3,h4,h5⟩:=qvB.1 h
   have:=qpK (F:=F) (bs:=bs) (by omega) F 0 l [] true (by omega) (by omega) h1 (by simp) (by rw[qCJ];exact (qoB h4).1) (by simp_all)
   rw[qCJ,qCA,show ((0:Nat):Int)=0 from rfl] at this
   grind [qvD,qfK]
  grind [qys]
 grind [cpE,quD,qyB]
theorem qtL:∀ {e:Int} {R:List (Int×Int)},Sep e R→∀ r∈R,e<r.1
 | _,[],_=>by simp
 | e,r::R,h=>by
  intro r' hr
  rcases qCj.1 hr with rfl | hr
  ·exact h.1
  ·have:=qtL h.2.2 r' hr;have:=h.1;have:=h.2.1;omega
def Mx (l:qFa)(r:Int×Int):Prop:=1≤r.2∧r.1-1∉l∧r.1+r.2∉l∧∀ z,r.1≤z→z<r.1+r.2→z∈l
theorem qxg:∀ {e:Int} {R:List (Int×Int)},Sep e R→∀ r∈R,Mx (flat R) r
 | _,[],_=>by simp
 | e,r::R,h=>by
  intro r' hr
  have h1:=h.2.1
  have hlt:=qr1 h.2.2
  rcases qCj.1 hr with rfl | hr
  ·refine ⟨h1,fun hm=>?_,fun hm=>?_,fun z h2 h3=>?_⟩
   ·rw[yg] at hm
    rcases qCg.1 hm with hm | hm
    ·have:=qey.1 hm;omega
    ·have:=hlt _ hm;omega
   ·rw[yg] at hm
    rcases qCg.1 hm with hm | hm
    ·have:=qey.1 hm;omega
    ·have:=hlt _ hm;omega
   ·rw[yg]
    exact qCg.2 (.inl (qey.2 (by omega)))
  ·obtain ⟨i1,i2,i3,i4⟩:=qxg h.2.2 r' hr
   have hf:=qtL h.2.2 r' hr
   refine ⟨i1,fun hm=>?_,fun hm=>?_,fun z h2 h3=>?_⟩
   ·rw[yg] at hm
    rcases qCg.1 hm with hm | hm
    ·have:=qey.1 hm;omega
    ·exact i2 hm
   ·rw[yg] at hm
    rcases qCg.1 hm with hm | hm
    ·have:=qey.1 hm;omega
    ·exact i3 hm
   ·rw[yg]
    exact qCg.2 (.inr (i4 z h2 h3))
theorem qnz {x b:Int}:qcB F x a b=some (decide (a≤x∧x≤b)):=by
 unfold qcB
 simp
def RunOk (r:Int×Int):Prop:=(0≤r.1∧r.1≤1048576)∧(1≤r.2∧r.2≤300)∧r.1+r.2-1≤1048576
instance runOkDec (r:Int×Int):Decidable (RunOk r):=inferInstanceAs (Decidable (_∧_∧_))
def sk:Int→List (Int×Int)→Int
 | _,[]=>0
 | e,r::R=>if RunOk r then (if r.1<e+2 then 4 else sk (r.1+r.2-1) R) else 3
theorem qxl:∀ {e:Int} {R:List (Int×Int)},sk e R=0↔(∀ r∈R,RunOk r)∧Sep (e+1) R
 | _,[]=>by simp[sk,Sep]
 | e,r::R=>by
  unfold sk Sep
  by_cases h:RunOk r
  ·rw[if_pos h]
   by_cases h2:r.1<e+2
   ·omega
   ·rw[if_neg h2,qxl]
    rw[show r.1+r.2-1+1=r.1+r.2 from by omega]
    have h3:1≤r.2:=h.2.1.1
    grind
  simp_all
theorem qkb:∀ {R:List (Int×Int)},(∀ r∈R,RunOk r)→(flat R).length≤300*R.length
 | [],_=>by simp[flat]
 | r::R,h=>by
  have h1:=qkb (R:=R) fun r hr=>h r (by grind)
  have h2:=h r (by simp)
  grind [RunOk,yg,qfi]
theorem qnp {F:Nat}{rec32:(qFa×Int)→Option (qFa×Int)}{i:Int}{r:Int×Int}{acc:qFa}(hr:RunOk r)(ha:acc.length≤1000000):∀ (k j:Nat),r.2.toNat<k+j→j≤r.2.toNat →
  qdy F rec32 i r k (acc++rng r.1 j,(j:Int))=qbT F rec32 i (acc++rng r.1 r.2.toNat)
 | 0,_,_,_=>by omega
 | k+1,j,h,hj=>by
  unfold RunOk at hr
  show qdw F rec32 i r (qdy F rec32 i r k) (acc++rng r.1 j) (j:Int)=_
  unfold qdw
  by_cases hlt:j<r.2.toNat
  ·rw[if_pos (by simp_all),zn (by omega) (by omega),kY (by simp[qfi];omega),qp (by omega)]
   simp only[qCa]
   rw[qCi,← qlS]
   exact qnp hr ha k (j+1) (by omega) (by omega)
  grind
theorem qur {i:Nat}(h:i<R.length):flat (R.take (i+1))=flat (R.take i)++rng R[i].1 R[i].2.toNat:=by
 grind [List.take_add_one,flat]
theorem ql7 {F:Nat}(hF:1000<F){R:List (Int×Int)}(hR:∀ r∈R,RunOk r)(hl:R.length≤300):∀ (k i:Nat),R.length<k+i→i≤R.length →
  jY F R k (flat (R.take i),(i:Int))=some (flat R,0)
 | 0,_,_,_=>by omega
 | k+1,i,h,hi=>by
  show qdv F R (jY F R k) (flat (R.take i)) (i:Int)=_
  unfold qdv
  by_cases hlt:i<R.length
  ·have hok:=hR _ (qCs hlt)
   have hsz:=qkb (R:=R.take i) fun r hr=>hR r (List.mem_of_mem_take hr)
   rw[qCo] at hsz
   have hsp:=qnp (F:=F) (rec32:=jY F R k) (i:=(i:Int)) (acc:=flat (R.take i)) hok (by omega) F 0 (by grind [RunOk]) (by omega)
   rw[rng,qCM,show ((0:Nat):Int)=0 from rfl] at hsp
   rw[if_pos (by simp_all),qk,qCb hlt]
   simp only[qCa]
   rw[hsp,← qur hlt]
   unfold qbT
   rw[qp (by omega)]
   exact ql7 hF hR hl k (i+1) (by omega) (by omega)
  ·rw[if_neg (by simp_all)]
   obtain rfl:i=R.length:=by omega
   rw[qDv];rfl
theorem qlE {b:Int}(h1:-1000000000≤a∧a≤1000000000)(h2:-1000000000≤b∧b≤1000000000):isub .i64 (iadd .i64 a b) 1=a+b-1:=by
 grind [zn,zN]
theorem ql6 {F:Nat}{R:List (Int×Int)}(hl:R.length≤300):∀ (k i:Nat) (e:Int),R.length<k+i→i≤R.length→-2≤e∧e≤1048576 →
  qbU F R k (e,(i:Int))=if sk e (R.drop i)≠0 then some ([],sk e (R.drop i)) else qbS F R
 | 0,_,_,_,_,_=>by omega
 | k+1,i,e,h,hi,he=>by
  show qdx F R (qbU F R k) e (i:Int)=_
  unfold qdx
  by_cases hlt:i<R.length
  ·rw[if_pos (by simp_all),qk,qCb hlt,qCk hlt,sk]
   generalize R[i]=r
   simp only[qCa]
   rw[qnz,qnz]
   simp only[qCa]
   by_cases h1:0≤r.1∧r.1≤1048576
   ·rw[decide_eq_true h1,if_neg (by simp)]
    by_cases h2:1≤r.2∧r.2≤300
    ·rw[decide_eq_true h2,if_neg (by simp),qlE (by omega) (by omega)]
     unfold jX
     by_cases h3:r.1+r.2-1≤1048576
     ·have hok:RunOk r:=⟨h1,h2,h3⟩
      rw[if_neg (by simp_all),if_pos hok,zn (by omega) (by omega)]
      by_cases h4:r.1<e+2
      ·simp_all
      ·rw[if_neg (by grind),if_neg h4,qlE (by omega) (by omega),qp (by omega)]
       exact ql6 hl k (i+1) _ (by omega) (by omega) (by omega)
     grind [RunOk]
    ·have hok:¬ RunOk r:=fun h=>h2 h.2.1
     rw[decide_eq_false h2,if_pos (by simp),if_neg hok,if_pos (by decide)]
     rfl
   ·have hok:¬ RunOk r:=fun h=>h1 h.1
    rw[decide_eq_false h1,if_pos (by simp),if_neg hok,if_pos (by decide)]
    rfl
  grind [sk]
def skc (R:List (Int×Int)):Int:=if 300<R.length then 2 else sk (-2) R
def spd (R:List (Int×Int)):qFa×Int:=if skc R≠0 then ([],skc R) else (flat R,0)
theorem qr4:skc R=0↔R.length≤300∧(∀ r∈R,RunOk r)∧Sep (-1) R:=by
 grind [skc,qxl]
theorem quU (hF:20000≤F):qer F R=some (spd R):=by
 unfold qer spd
 by_cases h:300<R.length
 ·grind [skc]
 ·have e:skc R=sk (-2) R:=by grind [skc]
  have hc:=ql6 (F:=F) (R:=R) (by omega) F 0 (-2) (by omega) (by omega) (by omega)
  rw[qCJ] at hc
  rw[if_neg (by grind),e]
  refine hc.trans ?_
  by_cases h2:sk (-2) R=0
  ·rw[if_neg (by omega),if_neg (by omega)]
   unfold qbS
   have hok:=qr4.1 (e.trans h2)
   exact ql7 (by omega) hok.2.1 hok.1 F 0 (by omega) (by omega)
  simp_all
def rm (R:List (Int×Int))(rest:qFa):qFa×Int:=if skc R≠0 then ([],skc R) else if gkc rest≠0 then ([],gkc rest) else mrg (flat R) rest
theorem qB5 (h:skc R≠0):rm R rest=([],skc R):=by grind [rm]
theorem qB6 (h:skc R=0)(h2:gkc rest≠0):rm R rest=([],gkc rest):=by grind [rm]
theorem qBU (h:skc R=0)(h2:gkc rest=0):rm R rest=mrg (flat R) rest:=by grind [rm]
theorem qBe (h:skc R=0):spd R=(flat R,0):=by grind [spd]
theorem qza (h:skc R≠0):spd R=([],skc R):=by grind [spd]
theorem qwp (hF:20000≤F):qfd F R rest=some (rm R rest):=by
 unfold qfd
 rw[quU hF,qgU hF]
 simp only[qCa]
 by_cases h:skc R=0
 ·rw[qBe h,if_pos (by simp)]
  unfold qbe
  grind [qBU,qr4,vz,qkb,qux,qr2,qa8,qB6]
 grind [qza,qB5,qbe]
theorem quJ {w:qFa}(h1:skc R=0)(h2:gkc rest=0)(h3:cmn (flat R) rest=false)(h4:(flat R++rest).Perm w)(h5:w.Pairwise (·≤·))(h6:w.length≤300):rm R rest=(w,0):=by
 have hl:=h4.length_eq
 rw[qCh] at hl
 rw[qBU h1 h2]
 unfold mrg
 rw[h3,if_neg (by simp),if_neg (by omega),qoN h4 h5]
theorem qyO {r:qFa}:(mrg l r).1.length≤300:=by
 unfold mrg
 split
 ·simp
 ·split
  ·simp
  ·simp[qig];omega
theorem qA7:(rm R rest).1.length≤300:=by
 unfold rm
 split
 ·simp
 ·split
  ·simp
  ·exact qyO
theorem qlu (p:Int×Int→Bool):(R.filter p).length≤R.length:=List.length_filter_le _ _
theorem quE {A B:List (Int×Int)}(h:A.Perm B):(flat A).Perm (flat B):=h.flatMap_right _
theorem qiX (least:Int):∀ (R:List (Int×Int)),(spO least R++spS least R).Perm R
 | []=>qCI _
 | r::R=>by
  by_cases h:least≤r.2
  ·rw[qAd h,qAe h];exact (qiX least R).cons r
  ·rw[qAc h,qAf h];exact qC6.trans ((qiX least R).cons r)
theorem qqC (least:Int)(l:qFa):(flat (spO least (rs l))++flat (spS least (rs l))).Perm l:=by
 rw[← qpV]
 have:=quE (qiX least (rs l))
 rwa [qfj] at this
theorem qzb {q:Int}{least:Int}(hl:l.length≤300)(h:Ris q l):(spO least (rs l)).length≤300∧(flat (spS least (rs l))).length≤300:=by
 have h1:=qj9 (qko (qa8 h).1 (qa8 h).2)
 rw[qfj] at h1
 have h2:=(qqC least l).length_eq
 rw[qCh] at h2
 have h3:(spO least (rs l)).length≤(rs l).length:=qlu _
 omega
theorem qxb (hl:l.length≤300)(h:Ris (-1) l):Sep (-1) (rs l)∧∀ r∈rs l,RunOk r:=by
 have hs:=qko (qa8 h).1 (qa8 h).2
 refine ⟨hs,fun r hr=>?_⟩
 have hm:=qxg hs r hr
 have h2:=qka hr
 rw[qfj] at hm h2
 have h1:=hm.1
 have a1:=qkn h _ (hm.2.2.2 r.1 (by omega) (by omega))
 have a2:=qkn h _ (hm.2.2.2 (r.1+r.2-1) (by omega) (by omega))
 unfold Nd at a1 a2
 exact ⟨by omega,by omega,by omega⟩
theorem qzg (hl:l.length≤300)(h:Ris (-1) l)(p:Int×Int→Bool):skc ((rs l).filter p)=0:=by
 obtain ⟨h1,h2⟩:=qxb hl h
 have h3:=qj9 h1
 rw[qfj] at h3
 exact qr4.2 ⟨qC5 (qlu p) (by omega),fun r hr=>h2 r (qDd.1 hr).1,qfV p h1⟩
theorem qvY (p:Int×Int→Bool):∀ z∈flat (R.filter p),z∈flat R:=by
 intro z hz
 obtain ⟨r,h1,h2⟩:=qlw.1 hz
 exact qlw.2 ⟨r,(qDd.1 h1).1,h2⟩
theorem qoP (h:Ris (-1) l)(p:Int×Int→Bool):Ris (-1) (flat ((rs l).filter p)):=by
 have hs:=qko (qa8 h).1 (qa8 h).2
 have hsub:∀ z∈flat ((rs l).filter p),z∈l:=fun z hz=>by have:=qvY p z hz;rwa [qfj] at this
 exact qoH (qr2 (qfV p hs)) (fun z hz=>(qa8 h).2 z (hsub z hz)) (fun z hz=>qkn h z (hsub z hz))
theorem qvC (f:Int→Bool):∀ (l pre:qFa) (c:Bool),cp (pre++l) (tb c pre.length (l.map f)) c=(if c then pre else [])++l.filter f
 | [],pre,c=>by
  show cp (pre++[]) [] c=_
  unfold cp
  simp
 | x::l,pre,c=>by
  rw[qCU,qEb]
  by_cases h:f x=c
  ·have ih:=qvC f l (pre++[x]) c
   rw[qCi,qCh,show ((pre.length+[x].length:Nat):Int)=(pre.length:Int)+1 from by simp] at ih
   rw[h,qjR]
   refine ih.trans ?_
   cases c
   ·simp
   ·simp
  ·have ih:=qvC f l [x] (f x)
   rw[qjS h]
   unfold cp
   have hc:(!c)=f x:=by cases c <;> cases hx:f x <;> simp_all
   rw[hc,show ((1:Int))=(([x]:qFa).length:Int) from rfl,qCf,List.take_left,List.drop_left]
   have ih':cp (x::l) (tb (f x) (([x]:qFa).length:Int) (l.map f)) (f x)=(if f x then [x] else [])++l.filter f:=ih
   rw[ih']
   cases f x <;> simp
theorem qAD (l m:qFa):cp l (tbs l m) true=l.filter (hasB m):=by
 have:=qvC (hasB m) l [] true
 simpa[tbs] using this
theorem qlL:∀ (bs:List Bool) (f c:Bool) (m:Int),0≤m→(f=true∨1≤m)→okB f (tb c m bs)=true
 | [],_,_,_,_,_=>rfl
 | b::bs,f,c,m,h,hf=>by
  by_cases hb:b=c
  ·subst hb
   rw[qjR]
   exact qlL bs f b (m+1) (by omega) (.inr (by omega))
  ·rw[qjS hb,qhU,qlL bs false b 1 (by omega) (.inr (by omega))]
   rcases hf with hf | hf
   ·simp[h,hf]
   ·simp[h,hf]
theorem qjm:∀ (bs:List Bool) (c:Bool) (m:Int),0≤m→bsum (tb c m bs)≤m+bs.length
 | [],_,_,h=>by show (0:Int)≤_;simp;omega
 | b::bs,c,m,h=>by
  by_cases hb:b=c
  ·subst hb
   rw[qjR]
   have:=qjm bs b (m+1) (by omega)
   rw[qCt];omega
  ·rw[qjS hb]
   have:=qjm bs b 1 (by omega)
   show m+bsum _≤_
   rw[qCt];omega
theorem qo3 (l m:qFa):(tbs l m).length≤l.length:=by
 have:=qsp true 0 (l.map (hasB m))
 rwa [qCF] at this
theorem qyr {m:qFa}(h:gkc l=0):cpE l (tbs l m)=0:=by
 refine qvB.2 ⟨vz.1 h,?_,qlL _ _ _ _ (by omega) (.inl rfl),?_⟩
 ·have:=qo3 l m;omega
 ·have:=qjm (l.map (hasB m)) true 0 (by omega)
  rw[qCF] at this
  unfold tbs;omega
theorem qyt {m:qFa}(h:gkc l=0):cpy l (tbs l m)=(l.filter (hasB m),0):=by
 rw[qvD (qyr h),qAD]
theorem qzf {m:qFa}(h:gkc l=0)(hs:m.Sublist l):gkc m=0:=by
 obtain ⟨h1,h2⟩:=vz.1 h
 have:=hs.length_le
 exact vz.2 ⟨by omega,qoH ((qa8 h2).1.sublist hs) (fun z hz=>(qa8 h2).2 z (hs.subset hz)) (fun z hz=>qkn h2 z (hs.subset hz))⟩
theorem qly (h:gkc l=0):l.Pairwise (·<·):=(qa8 (vz.1 h).2).1
theorem qp3 {x:Int}:hasB l x=true↔x∈l:=by unfold hasB;simp
theorem qwF {a:qFa}(ha:gkc a=0)(hb:gkc b=0):a.filter (hasB b)=b.filter (hasB a):=by
 refine qwS ((qly ha).sublist (qEe ..)) ((qly hb).sublist (qEe ..)) fun z=>?_
 rw[qDd,qDd,qp3,qp3]
 exact And.comm
theorem quq (p:Int→Bool)(l:qFa):(l.filter p++l.filter fun x=>!p x).Perm l:=by
 induction l with
 | nil=>exact qCI _
 | cons x l ih =>
  rw[qEb,qEb]
  cases p x
  ·simp only[qCr,if_false,qEH,if_true]
   exact qC6.trans (ih.cons x)
  ·simp only[if_true,qC9,qCr,if_false]
   exact ih.cons x
structure Rep (l:qFa) (f:Bool) (S:qFa):Prop where
 bit:Bit l
 len:l.length≤8192
 ok:f=false→l=S
 full:f=true→8192<S.length
def Wr (m:Option (Int×qFa×Bool))(S:qFa):Prop:=∃ l f,m=some ((l.length:Int),pk l,f)∧Rep l f S
theorem qy1:Rep [] false []:=⟨by intro x hx;grind,by simp,fun _=>rfl,by simp⟩
theorem qw1 (h:Rep l f S){k:qFa}(hk:8192<(S++k).length):Rep l true (S++k):=⟨h.bit,h.len,by simp,fun _=>hk⟩
theorem qpc (hF:20000≤F){k:qFa}(h:Rep l f S)(hk:Bit k)(hkm:k.length≤8192):Wr (vx F (l.length:Int) (pk l) f (k.length:Int) (pk k)) (S++k):=by
 have hl:=h.len
 unfold vx
 cases f with
 | true =>
  have:=h.full rfl
  refine ⟨l,true,by rfl,h.bit,h.len,by simp,fun _=>by grind⟩
 | false =>
  obtain rfl:=h.ok rfl
  rw[if_neg (by simp),qcw (by omega)]
  unfold j3
  by_cases hb:8192<l.length+k.length
  ·rw[if_neg (by grind)]
   refine ⟨l,true,by grind,h.bit,h.len,by simp,fun _=>by simp_all⟩
  ·rw[if_pos (by grind),qsH hF h.bit hk h.len hkm]
   refine ⟨l++k,false,by grind,vy h.bit hk,by simp_all,fun _=>rfl,by simp⟩
theorem qec (hF:20000≤F)(h:Rep l f S){n:Int}(h0:0≤n)(hn:n≤1099511627776):Wr (zm F (l.length:Int) (pk l) f n) (S++ga n.toNat):=by
 obtain ⟨m,rfl⟩:=qCd h0
 unfold zm
 rw[vL (by omega),qkH hF (by omega)]
 simp only[qCa,qCf]
 obtain ⟨l',f',e,h'⟩:=qpc hF h (qiV m) (by grind [qzY])
 rw[e]
 exact ⟨l',f',rfl,h'⟩
theorem qmg {m:Option (Int×qFa×Bool)}{T:qFa}(h:Wr m S)(e:S=T):Wr m T:=e▸h
def encBs:Bool→qFa→qFa
 | _,[]=>[]
 | b,n::bs=>ga (n-if b then 1 else 0).toNat++encBs true bs
def encB (bs:qFa):qFa:=ga bs.length++encBs false bs
theorem qwc (i:Nat):imin (i:Int) 1=if 0<i then 1 else 0:=by
 grind [imin]
theorem qnx {F:Nat}(hF:20000≤F){bs:qFa}(hm:bs.length≤1000):∀ (k i:Nat) (l:qFa) (f:Bool) (S:qFa),bs.length<k+i→i≤bs.length→Rep l f S→okB (!decide (0<i)) (bs.drop i)=true→(∀ n∈bs,n≤1000000) →
  Wr (qaB F bs k ((i:Int),(l.length:Int),pk l,f)) (S++encBs (decide (0<i)) (bs.drop i))
 | 0,_,_,_,_,_,_,_,_,_=>by omega
 | k+1,i,l,f,S,h,hi,hr,hok,hb=>by
  show Wr (qaA F bs (qaB F bs k) (i:Int) (l.length:Int) (pk l) f) _
  unfold qaA
  by_cases hlt:i<bs.length
  ·rw[qCk hlt,qhU] at hok
   simp only[qCS,qDB,decide_eq_true_eq,qDF,decide_eq_false_iff_not] at hok
   have hn:=hb bs[i] (qCs hlt)
   rw[if_pos (by simp_all),qk,qCb hlt,qCk hlt,qwc]
   simp only[qCa]
   have e1:isub .i64 bs[i] (if 0<i then 1 else 0)=bs[i]-(if decide (0<i)=true then 1 else 0):=by
    grind [zN]
   rw[e1]
   obtain ⟨l',f',e,h'⟩:=qec hF hr (n:=bs[i]-(if decide (0<i)=true then 1 else 0)) (by grind) (by omega)
   rw[e]
   simp only[qCa]
   rw[qp (by omega)]
   refine qmg (qnx hF hm k (i+1) l' f' _ (by omega) (by omega) h' (by simp_all) hb) ?_
   grind [encBs]
  ·rw[if_neg (by simp_all),qCp (by omega)]
   exact ⟨l,f,rfl,by simpa[encBs] using hr⟩
theorem qst (hF:20000≤F){bs:qFa}(hm:bs.length≤1000)(hr:Rep l f S)(hok:okB true bs=true)(hb:∀ n∈bs,n≤1000000):Wr (j4 F (l.length:Int) (pk l) f bs) (S++encB bs):=by
 unfold j4
 obtain ⟨l',f',e,h'⟩:=qec hF hr (n:=(bs.length:Int)) (by omega) (by omega)
 rw[e]
 simp only[qCa]
 refine qmg (qnx hF hm F 0 l' f' _ (by omega) (by omega) h' (by simp_all) hb) ?_
 simp[encB]
def encRs (least:Int):Bool→Int→List (Int×Int)→qFa
 | _,_,[]=>[]
 | b,a,r::R=>ga (if b then r.1-a-2 else foldOf (r.1-a)).toNat++(ga (r.2-least).toNat++encRs least true (r.1+r.2-1) R)
def encR (least node:Int)(R:List (Int×Int)):qFa:=ga R.length++encRs least false node R
theorem qlx {x:Int}(h:-2000000≤x∧x≤2000000):0≤foldOf x∧foldOf x≤4000001:=by grind [foldOf]
theorem qt3 {F:Nat}(hF:20000≤F){R:List (Int×Int)}{least:Int}(hm:R.length≤300)(hR:∀ r∈R,RunOk r∧least≤r.2)(hle:0≤least):∀ (k i:Nat) (a:Int) (l:qFa) (f:Bool) (S:qFa),R.length<k+i→i≤R.length→Rep l f S→Nd a→(∃ q,Sep q (R.drop i)∧(0<i→a+1≤q)) →
  Wr (yW F least R k (a,(i:Int),(l.length:Int),pk l,f)) (S++encRs least (decide (0<i)) a (R.drop i))
 | 0,_,_,_,_,_,_,_,_,_,_=>by omega
 | k+1,i,a,l,f,S,h,hi,hr,ha,hs=>by
  show Wr (qbA F least R (yW F least R k) a (i:Int) (l.length:Int) (pk l) f) _
  unfold qbA
  by_cases hlt:i<R.length
  ·obtain ⟨hro,hrl⟩:=hR R[i] (qCs hlt)
   unfold RunOk at hro
   unfold Nd at ha
   rw[if_pos (by simp_all),qk,qCb hlt,qCk hlt]
   simp only[qCa]
   have hj:∀ {l':qFa} {f':Bool} {S':qFa},Rep l' f' S'→S'=S++ga (if decide (0<i)=true then R[i].1-a-2 else foldOf (R[i].1-a)).toNat→Sep (R[i].1+R[i].2) (R.drop (i+1)) →
     Wr (yV F (yW F least R k) least (i:Int) R[i] (l'.length:Int) (pk l') f') (S++encRs least (decide (0<i)) a (R[i]::R.drop (i+1))):=by
    intro l' f' S' hr' hS hsep
    unfold yV
    rw[zN (by omega) (by omega)]
    obtain ⟨l2,f2,e,h2⟩:=qec hF hr' (n:=R[i].2-least) (by omega) (by omega)
    rw[e]
    simp only[qCa]
    rw[qlE (by omega) (by omega),qp (by omega)]
    refine qmg (qt3 hF hm hR hle k (i+1) (R[i].1+R[i].2-1) l2 f2 _ (by omega) (by omega) h2 (by unfold Nd;omega) ⟨_,hsep,fun _=>by omega⟩) ?_
    grind [encRs]
   obtain ⟨q,hsp,hq⟩:=hs
   rw[qCk hlt] at hsp
   obtain ⟨h1,h2,h3⟩:=hsp
   by_cases h0:0<i
   ·have hq':=hq h0
    have e3:isub .i64 R[i].1 a=R[i].1-a:=zN (by omega) (by omega)
    rw[if_neg (by grind),e3,zN (by omega) (by omega)]
    obtain ⟨l',f',e,h'⟩:=qec hF hr (n:=R[i].1-a-2) (by omega) (by omega)
    grind
   ·obtain rfl:i=0:=by omega
    have hf:=qlx (x:=R[0].1-a) (by omega)
    rw[if_pos (by simp),zN (by omega) (by omega),qsY F (by omega) (by omega)]
    simp only[qCa]
    rw[show iconv .i64 (foldOf (R[0].1-a))=foldOf (R[0].1-a) from yD (by omega) (by omega)]
    obtain ⟨l',f',e,h'⟩:=qec hF hr (n:=foldOf (R[0].1-a)) (by omega) (by omega)
    grind
  ·rw[if_neg (by simp_all),qCp (by omega)]
   exact ⟨l,f,rfl,by simpa[encRs] using hr⟩
theorem qx3 (hF:20000≤F){least q:Int}(hm:R.length≤300)(hR:∀ r∈R,RunOk r∧least≤r.2)(hle:0≤least)(hr:Rep l f S)(hn:Nd node)(hs:Sep q R) :
  Wr (qa5 F (l.length:Int) (pk l) f node least R) (S++encR least node R):=by
 unfold qa5
 obtain ⟨l',f',e,h'⟩:=qec hF hr (n:=(R.length:Int)) (by omega) (by omega)
 rw[e]
 simp only[qCa]
 refine qmg (qt3 hF hm hR hle F 0 node l' f' _ (by omega) (by omega) h' hn ⟨q,by grind,by omega⟩) ?_
 simp[encR]
theorem qos:∀ {bs:qFa} {f:Bool},okB f bs=true→∀ n∈bs,n≤bsum bs
 | [],_,_,n,h=>by grind
 | x::bs,f,h,n,hn=>by
  rw[qhU] at h
  simp only[qCS] at h
  have h0:=qoB h.2
  have hx:0≤x:=by simp_all
  have hb:bsum (x::bs)=x+bsum bs:=rfl
  rcases qCj.1 hn with rfl | hn
  ·omega
  ·have:=qos h.2 n hn;omega
def encO (rest:qFa)(least:Int):List (Int×Int):=if 0<least then spO least (rs rest) else []
def encS (rest:qFa)(least:Int):qFa:=if 0<least then flat (spS least (rs rest)) else rest
def encL (node:Int)(rest:qFa)(least:Int)(k:Nat):qFa :=
 if rest=[] then [] else (if 0<least then encR least node (encO rest least) else [])++zes k (gp false node (encS rest least))
def rstO (l fr:qFa)(back:Int):qFa:=if 0<back then rst fr l else l
def enc (node:Int)(l fr:qFa)(back least:Int)(k:Nat):qFa :=
 ga l.length++if l=[] then [] else (if 0<back then encB (tbs fr l) else [])++encL node (rstO l fr back) least k
theorem qyX (hF:200000≤F){a:qFa}(ha:gkc a=0)(hl:gkc l=0):qf9 F a l=some (tbs a l,rst a l):=by
 obtain ⟨h1,h2⟩:=vz.1 ha
 obtain ⟨h3,h4⟩:=vz.1 hl
 have:=qrV hF (qa8 h2).1 (qa8 h4).1 h1 h3 F 0 [] true 0 (by omega) (by omega) (by simp) (by omega)
 rw[qCJ,qCA] at this
 unfold qf9
 rw[show ((0:Nat):Int)=0 from rfl] at this
 rw[this]
 rfl
theorem qqW {k:Nat}(hF:20000≤F)(h1:1≤k)(h2:k≤16){q:Int}(hr:Rep l f S)(hn:Nd node)(hm:rest.length≤300)(hs:Ris q rest) :
  Wr (yT F node (k:Int) rest (l.length:Int) (pk l) f) (S++zes k (gp false node rest)):=by
 unfold yT
 have h40:L40 (gp false node rest):=fun x hx=>by have:=qv9 hn hs (by simp) x hx;omega
 have hp:=qyE (F:=F) (l:=[]) hF h1 h2 h40 (by rw[qrz];omega) (by intro x hx;grind) (by simp)
 simp only[qCA,qDD] at hp
 rw[qyF hF hm hn hs]
 simp only[qCa]
 rw[show qcP F 0 ([]:qFa) (gp false node rest) (k:Int)=_ from hp]
 simp only[qCa]
 unfold yU
 by_cases hb:(zes k (gp false node rest)).length≤8192
 ·rw[if_pos hb]
  simp only[qC9,Bool.or_false]
  obtain ⟨l',f',e,h'⟩:=qpc hF hr (qt4 k _) hb
  rw[e]
  exact ⟨l',f',rfl,h'⟩
 ·rw[if_neg hb]
  simp only[qEH,Bool.or_true]
  have hr':=qw1 hr (k:=zes k (gp false node rest)) (by grind)
  obtain ⟨l',f',e,h'⟩:=qpc hF hr' (k:=[]) (by intro x hx;grind) (by simp)
  have e':vx F (l.length:Int) (pk l) true 0 []=some ((l'.length:Int),pk l',f'):=e
  rw[e']
  exact ⟨l',f',rfl,by grind⟩
theorem qnA {k:Nat}(hF:2000000≤F)(h1:1≤k)(h2:k≤16){least:Int}(hr:Rep l f S)(hn:Nd node)(hg:gkc rest=0)(_hle:least=0∨2≤least∧least≤300) :
  Wr (yS F node least (k:Int) rest (l.length:Int) (pk l) f) (S++encL node rest least k):=by
 obtain ⟨hm,hs⟩:=vz.1 hg
 unfold yS encL encO encS
 by_cases h0:rest=[]
 ·subst h0
  exact ⟨l,f,rfl,by grind⟩
 ·have hlen:rest.length≠0:=by grind
  rw[if_neg (by simp_all),if_neg h0]
  by_cases hl:0<least
  ·rw[if_pos (by grind),if_pos hl,if_pos hl,if_pos hl,qrW hF hm hs]
   simp only[qCa]
   obtain ⟨s1,s2⟩:=qzb (least:=least) hm hs
   obtain ⟨r1,r2⟩:=qxb hm hs
   obtain ⟨l',f',e,h'⟩:=qx3 (F:=F) (R:=spO least (rs rest)) (least:=least) (node:=node) (q:=-1) (by omega) s1 (fun r hr=>⟨r2 r (qDd.1 hr).1,by simpa using (qDd.1 hr).2⟩) (by omega) hr hn (qfV _ r1)
   rw[e]
   simp only[qCa]
   refine qmg (qqW (by omega) h1 h2 h' hn s2 (qoP hs _)) ?_
   simp
  grind [qqW]
theorem qtK {a:qFa}(h:gkc l=0):gkc (rst a l)=0:=qzf h qEe
theorem qqZ {k:Nat}(hF:2000000≤F)(h1:1≤k)(h2:k≤16){fr:qFa}{least:Int}(hn:Nd node)(hg:gkc x=0)(hfr:0<back→gkc fr=0)(hle:least=0∨2≤least∧least≤300) :
  Wr (v6 F 0 [] false node x fr back least (k:Int)) (enc node x fr back least k):=by
 obtain ⟨hm,hs⟩:=vz.1 hg
 unfold v6 enc rstO
 obtain ⟨l,f,e,hr⟩:=qec (F:=F) (by omega) qy1 (n:=(x.length:Int)) (by omega) (by omega)
 rw[show zm F 0 ([]:qFa) false (x.length:Int)=_ from e]
 simp only[qCa,qCA,qCf] at hr ⊢
 by_cases h0:x=[]
 ·subst h0
  rw[if_pos (by simp),if_pos rfl]
  exact ⟨l,f,rfl,by grind⟩
 ·rw[if_neg (by simpa using h0),if_neg h0]
  by_cases hb:0<back
  ·have hfg:=hfr hb
   have hfl:=(vz.1 hfg).1
   rw[if_pos (by grind),if_pos hb,if_pos hb,qyX (by omega) hfg hg]
   simp only[qCa]
   have htl:=qo3 fr x
   have hok:okB true (tbs fr x)=true:=qlL _ _ _ _ (by omega) (Or.inl rfl)
   have hsum:bsum (tbs fr x)≤0+(fr.map (hasB x)).length:=qjm _ _ _ (by omega)
   rw[qCF] at hsum
   have hbd:∀ n∈tbs fr x,n≤1000000:=fun n hnm=>by
    have:=qos hok n hnm
    omega
   obtain ⟨l',f',e',h'⟩:=qst (F:=F) (bs:=tbs fr x) (by omega) (by omega) hr hok hbd
   grind [qnA,qtK]
  grind [qnA]
def rgam (l:qFa)(p:Nat)(most:Int):Option (Int×Nat):=if (fg l p).2.2=0∧(fg l p).1≤most then some ((fg l p).1,(fg l p).2.1.toNat) else none
def Rd {α:Type}(l:qFa)(m:Option ((α×Int×Int) ⊕ (Int×Int)))(o:Option (α×Nat)):Prop :=
 match o with
 | none=>∃ z,m=some (.inr z)
 | some x=>m=some (.inl (x.1,(l.length:Int),(x.2:Int)))
theorem qa7 {x:Int×Nat}(h:rgam l p most=some x):0≤x.1∧x.1≤most∧x.1≤1099511627776∧x.2≤l.length:=by
 grind [rgam,qvW]
theorem qAW:yH F true=some (.inl ()):=rfl
theorem qwq:yH F false=some (.inr ()):=rfl
theorem qic (hF:20000≤F)(hl:Bit l)(hm:l.length≤8192)(hp:p≤l.length)(h0:0≤most)(h1:most≤1000000000):Rd l (zS F (l.length:Int) (pk l) (p:Int) most) (rgam l p most):=by
 obtain ⟨mo,rfl⟩:=qCd h0
 unfold zS rgam
 rw[qju hF hl hm hp]
 simp only[qCa]
 rw[vL (by omega)]
 rcases qvW (l:=l) (a:=p) with h2 | ⟨n,q,h2,h3,h4⟩
 ·rw[if_neg (fun h=>h2 h.1),show ((fg l p).2.2 == 0 && decide ((fg l p).1≤(mo:Int)))=false from by grind,qwq]
  exact ⟨_,rfl⟩
 ·rw[h2]
  simp only[true_and,beq_self_eq_true,Bool.true_and]
  by_cases hc:(n:Int)≤mo
  ·rw[if_pos hc,decide_eq_true hc,qAW]
   show _=_
   grind [lbnd,qeI]
  ·rw[if_neg hc,decide_eq_false hc,qwq]
   exact ⟨_,rfl⟩
theorem qgc {β:Type}{m:Option ((α×Int×Int) ⊕ (Int×Int))}{o:Option (α×Nat)}{k:α×Int×Int→Option ((β×Int×Int) ⊕ (Int×Int))}{kl:Int×Int→Option ((β×Int×Int) ⊕ (Int×Int))}{g:α×Nat→Option (β×Nat)}(h:Rd l m o)(hk:∀ x,o=some x→Rd l (k (x.1,(l.length:Int),(x.2:Int))) (g x))(hkl:∀ z,∃ z',kl z=some (.inr z')):Rd l (lbnd m k kl) (o.bind g):=by
 cases o with
 | none =>
  obtain ⟨z,h⟩:=h
  rw[h]
  exact hkl z
 | some x =>
  have h':m=some (.inl (x.1,(l.length:Int),(x.2:Int))):=h
  rw[h']
  exact hk x rfl
def rbl (l:qFa)(many:Int):Nat→Bool→Nat→Option (qFa×Nat)
 | 0,_,p=>some ([],p)
 | k+1,b,p=>(rgam l p many).bind fun g=>(rbl l many k true g.2).bind fun r=>some ((g.1+if b then 1 else 0)::r.1,r.2)
def rblk (l:qFa)(p:Nat)(many:Int):Option (qFa×Nat):=(rgam l p (many+1)).bind fun g=>rbl l many g.1.toNat false g.2
theorem qtv {l:qFa}{many:Int}:∀ {k:Nat} {b:Bool} {p:Nat} {r:qFa×Nat},p≤l.length→rbl l many k b p=some r→r.1.length=k∧r.2≤l.length
 | 0,_,p,r,hp,h=>by simp only[rbl,qCm] at h;grind
 | k+1,b,p,r,hp,h=>by
  simp only[rbl,qCV,qCm] at h
  obtain ⟨g,h1,r',h2,rfl⟩:=h
  have h3:=qtv (qa7 h1).2.2.2 h2
  simp_all
theorem qte {n:Nat}{y:α}(h:n≤lim):mk lim y (n:Int)=some (qCc n y):=by
 grind [mk]
theorem qxi {o r:List α}{x y:α}:(o++x::r).set o.length y=o++y::r:=by
 simp
theorem qon {o r:List α}{x:α}:idx (o++x::r) (o.length:Int)=some x:=by
 rw[qk];simp
theorem qni {F:Nat}(hF:20000≤F){l:qFa}(hl:Bit l)(hm:l.length≤8192){many:Int}(h0:0≤many)(h1:many≤1000000){w:qFa}(hw:w.length≤1000000):∀ (k:Nat) (o:qFa) (p:Nat),w.length<k+o.length→o.length≤w.length→p≤l.length →
  Rd l (qaz F (pk l) many w k (o++qCc (w.length-o.length) 0,(o.length:Int),(l.length:Int),(p:Int)))
   ((rbl l many (w.length-o.length) (decide (0<o.length)) p).map fun r=>(o++r.1,r.2))
 | 0,_,_,_,_,_=>by omega
 | k+1,o,p,h,ho,hp=>by
  show Rd l (qay F (pk l) many w (qaz F (pk l) many w k) (o++qCc (w.length-o.length) 0) (o.length:Int) (l.length:Int) (p:Int)) _
  unfold qay
  by_cases hlt:o.length<w.length
  ·rw[if_pos (by simp_all)]
   obtain ⟨d,hd⟩:∃ d,w.length-o.length=d+1:=⟨w.length-o.length-1,by omega⟩
   rw[hd]
   unfold rbl
   rw[qDe,qEZ]
   refine qgc (qic hF hl hm hp h0 (by omega)) (fun g hg=>?_) (fun z=>⟨_,rfl⟩)
   have hok:=qa7 hg
   rw[qon,qCf,qxi]
   simp only[qCa,lett,Function.comp]
   rw[qwc,zn (by omega) (by omega),qp (by omega)]
   have e:w.length-(o++[g.1+if 0<o.length then 1 else 0]).length=d:=by grind
   have:=qni hF hl hm h0 h1 hw k (o++[g.1+if 0<o.length then 1 else 0]) g.2 (by omega) (by grind) hok.2.2.2
   rw[e] at this
   simp only[qCi,qD8,qCh,qDz] at this
   rw[show decide (0<o.length+1)=true from by simp] at this
   have h9:((rbl l many d true g.2).bind fun r=>some ((g.1+if decide (0<o.length)=true then 1 else 0)::r.1,r.2)).map (fun r=>(o++r.1,r.2))=(rbl l many d true g.2).map fun r=>(o++(g.1+if 0<o.length then 1 else 0)::r.1,r.2):=by
    cases rbl l many d true g.2 <;> simp
   simp_all
  ·rw[if_neg (by simp_all),show w.length-o.length=0 from by omega]
   rfl
theorem qqq (hF:20000≤F)(hl:Bit l)(hm:l.length≤8192)(h0:0≤many)(h1:many≤1000)(hp:p≤l.length):Rd l (j2 F (l.length:Int) (pk l) (p:Int) many) (rblk l p many):=by
 unfold j2 rblk
 rw[zn (by omega) (by omega)]
 refine qgc (qic hF hl hm hp (by omega) (by omega)) (fun g hg=>?_) (fun z=>⟨_,rfl⟩)
 have hok:=qa7 hg
 obtain ⟨n,hn⟩:=qCd hok.1
 rw[hn,qte (by omega)]
 simp only[qCa,qCf]
 have:=qni hF hl hm h0 (by omega) (w:=qCc n 0) (by grind) F [] g.2 (by grind) (by simp) hok.2.2.2
 simp_all
theorem qiw {xs:List (qFa)}{i:Nat}(h:xs[i]?=some x):(xs.drop i).flatten=x++(xs.drop (i+1)).flatten:=by
 grind [qCk]
theorem qmU {F:Nat}{xs:List (qFa)}(hm:xs.length≤1000):∀ (k i:Nat) (o:qFa),xs.length<k+i→i≤xs.length→o.length+(xs.drop i).flatten.length≤1000000 →
  zV F xs k (o,(i:Int))=some (o++(xs.drop i).flatten)
 | 0,_,_,_,_,_=>by omega
 | k+1,i,o,h,hi,ho=>by
  show qU F xs (zV F xs k) o (i:Int)=_
  unfold qU
  by_cases hlt:i<xs.length
  ·have hg:=qCb hlt
   have hf:=qiw hg
   rw[hf,qCh] at ho
   rw[if_pos (by simp_all),qk,hg,hf]
   simp only[qCa]
   rw[kY (by omega),qp (by omega)]
   simp only[qCa]
   rw[qmU hm k (i+1) _ (by omega) (by omega) (by grind),qCi]
  grind [vU]
theorem qmV {F:Nat}(hF:20000≤F){xs:List (qFa)}(hm:xs.length≤1000)(ht:xs.flatten.length≤1000000):∀ (k i n:Nat),xs.length<k+i→i≤xs.length→n+(xs.drop i).flatten.length=xs.flatten.length →
  zW F xs k ((n:Int),(i:Int))=some xs.flatten
 | 0,_,_,_,_,_=>by omega
 | k+1,i,n,h,hi,hn=>by
  show qV F xs (zW F xs k) (n:Int) (i:Int)=_
  unfold qV
  by_cases hlt:i<xs.length
  ·have hg:=qCb hlt
   have hf:=qiw hg
   rw[hf,qCh] at hn
   rw[if_pos (by simp_all),qk,hg]
   simp only[qCa]
   rw[qcw (by omega),if_neg (by grind),qp (by omega)]
   exact qmV hF hm ht k (i+1) _ (by omega) (by omega) (by omega)
  ·rw[if_neg (by simp_all)]
   rw[qCp (by omega)] at hn
   simp only[List.flatten_nil,qDD] at hn
   unfold kM
   rw[qs5 (by omega)]
   simp only[qCa]
   have:=qmU (F:=F) hm F 0 [] (by omega) (by omega) (by grind)
   simp_all
theorem qrp (hF:20000≤F){a c:qFa}(h:a.length+(b.length+c.length)≤1000000):zU F [a,b,c]=some (a++(b++c)):=by
 have:=qmV (F:=F) hF (xs:=[a,b,c]) (by simp) (by grind) F 0 0 (by grind) (by simp) (by simp)
 simp only[List.flatten_cons,List.flatten_nil,qCM] at this
 exact this
theorem qy8 {a:qFa}(h:a.length≤1000000):zj F a=some (srt a):=by
 grind [zj]
def rrn (l:qFa)(least many:Int):Nat→Bool→Int→Nat→Option (List (Int×Int)×Nat)
 | 0,_,_,p=>some ([],p)
 | k+1,b,a,p=>(rgam l p 2097152).bind fun g=>(rgam l g.2 many).bind fun x =>
   (rrn l least many k true (a+(if b then g.1+2 else k5 g.1)+(x.1+least)-1) x.2).bind fun r=>some ((a+(if b then g.1+2 else k5 g.1),x.1+least)::r.1,r.2)
def rrns (l:qFa)(p:Nat)(node least many:Int):Option (List (Int×Int)×Nat):=(rgam l p (many/least)).bind fun g=>rrn l least many g.1.toNat false node g.2
theorem qoK {l:qFa}{least many:Int}:∀ {k:Nat} {b:Bool} {a:Int} {p:Nat} {r:List (Int×Int)×Nat},p≤l.length→rrn l least many k b a p=some r→r.1.length=k∧r.2≤l.length
 | 0,_,_,p,r,hp,h=>by simp only[rrn,qCm] at h;grind
 | k+1,b,a,p,r,hp,h=>by
  simp only[rrn,qCV,qCm] at h
  obtain ⟨g,h1,x,h2,r',h3,rfl⟩:=h
  have h4:=qoK (qa7 h2).2.2.2 h3
  simp_all
theorem qo7 {g:Int}(h0:0≤g)(h:g≤2097152):-1048577≤k5 g∧k5 g≤1048576:=by grind [k5]
theorem qtI {F:Nat}(hF:20000≤F){l:qFa}(hl:Bit l)(hm:l.length≤8192){least many:Int}(h0:0≤many)(h1:many≤300)(h2:2≤least)(h3:least≤300){w:List (Int×Int)}(hw:w.length≤1000):∀ (k:Nat) (o:List (Int×Int)) (a:Int) (p:Nat),w.length<k+o.length→o.length≤w.length→p≤l.length→(-3000000*((o.length:Int)+1)≤a∧a≤3000000*((o.length:Int)+1)) →
  Rd l (yB F (pk l) least many w k (o++qCc (w.length-o.length) (0,0),a,(o.length:Int),(l.length:Int),(p:Int)))
   ((rrn l least many (w.length-o.length) (decide (0<o.length)) a p).map fun r=>(o++r.1,r.2))
 | 0,_,_,_,_,_,_,_=>by omega
 | k+1,o,a,p,h,ho,hp,ha=>by
  show Rd l (qa4 F (pk l) least many w (yB F (pk l) least many w k) (o++qCc (w.length-o.length) (0,0)) a (o.length:Int) (l.length:Int) (p:Int)) _
  unfold qa4
  by_cases hlt:o.length<w.length
  ·rw[if_pos (by simp_all)]
   obtain ⟨d,hd⟩:∃ d,w.length-o.length=d+1:=⟨w.length-o.length-1,by omega⟩
   rw[hd]
   unfold rrn
   rw[qDe,qEZ]
   refine qgc (qic hF hl hm hp (by omega) (by omega)) (fun g hg=>?_) (fun z=>⟨_,rfl⟩)
   have hok:=qa7 hg
   have hun:=qo7 hok.1 hok.2.1
   have hj:∀ (s:Int),s=a+(if decide (0<o.length)=true then g.1+2 else k5 g.1) →
     Rd l (yA F (yB F (pk l) least many w k) (pk l) least many (o++(0,0)::qCc d (0,0)) (o.length:Int) (g.1,(l.length:Int),(g.2:Int)) s)
      (Option.map (fun r=>(o++r.1,r.2)) ((rgam l g.2 many).bind fun x=>(rrn l least many d true (a+(if decide (0<o.length)=true then g.1+2 else k5 g.1)+(x.1+least)-1) x.2).bind fun r=>some ((a+(if decide (0<o.length)=true then g.1+2 else k5 g.1),x.1+least)::r.1,r.2))):=by
    intro s hs
    rw[← hs]
    have hsb:-3000000*((o.length:Int)+1)-1048577≤s∧s≤3000000*((o.length:Int)+1)+2097154:=by omega
    unfold yA
    rw[qEZ]
    refine qgc (qic hF hl hm hok.2.2.2 h0 (by omega)) (fun x hx=>?_) (fun z=>⟨_,rfl⟩)
    have hox:=qa7 hx
    rw[qon,qCf,qxi]
    simp only[qCa,lett,Function.comp]
    rw[qon,zn (by omega) (by omega)]
    simp only[qCa]
    have e1:isub .i64 (x.1+least) 1=x.1+least-1:=zN (by omega) (by omega)
    rw[e1,zn (by omega) (by omega),qp (by omega)]
    have e:w.length-(o++[(s,x.1+least)]).length=d:=by grind
    have:=qtI hF hl hm h0 h1 h2 h3 hw k (o++[(s,x.1+least)]) (s+(x.1+least)-1) x.2 (by omega) (by grind) hox.2.2.2 (by omega)
    rw[e] at this
    simp only[qCi,qD8,qCh,qDz] at this
    rw[show decide (0<o.length+1)=true from by simp] at this
    have h9:((rrn l least many d true (s+(x.1+least)-1) x.2).bind fun r=>some ((s,x.1+least)::r.1,r.2)).map (fun r=>(o++r.1,r.2))=(rrn l least many d true (s+(x.1+least)-1) x.2).map fun r=>(o++(s,x.1+least)::r.1,r.2):=by
     cases rrn l least many d true (s+(x.1+least)-1) x.2 <;> simp
    grind
   simp only[Function.comp]
   by_cases hz:0<o.length
   ·rw[if_neg (by grind)]
    have e1:iadd .i64 g.1 2=g.1+2:=zn (by omega) (by omega)
    grind [zn]
   grind [qCd,vL,qnv,zn]
  ·rw[if_neg (by simp_all),show w.length-o.length=0 from by omega]
   rfl
theorem quL (hF:20000≤F)(hl:Bit l)(hm:l.length≤8192){least:Int}(h0:0≤many)(h1:many≤300)(h2:2≤least)(h3:least≤300)(hn:Nd node)(hp:p≤l.length) :
  Rd l (qa3 F (l.length:Int) (pk l) (p:Int) node least many) (rrns l p node least many):=by
 unfold qa3 rrns
 unfold Nd at hn
 have hq:iquo .i64 many least=many/least:=by
  obtain ⟨m,rfl⟩:=qCd h0
  obtain ⟨c,rfl⟩:=qCd (show 0≤least by omega)
  unfold iquo
  rw[Int.tdiv_eq_ediv_of_nonneg (by omega)]
  have h5:(m:Int)/(c:Int)≤m:=qEs _ (by omega)
  grind [yD]
 have hd0:0≤many/least:=Int.ediv_nonneg h0 (by omega)
 have hd1:many/least≤many:=qEs _ h0
 have hc:∀ {ρ:Type} (m:Option ρ),chk (least != 0) m=m:=fun m=>by grind [chk]
 rw[hq,hc]
 refine qgc (qic hF hl hm hp hd0 (by omega)) (fun g hg=>?_) (fun z=>⟨_,rfl⟩)
 have hok:=qa7 hg
 obtain ⟨n,hn'⟩:=qCd hok.1
 rw[hn',qte (by omega)]
 simp only[qCa,qCf]
 have:=qtI hF hl hm h0 h1 h2 h3 (w:=qCc n (0,0)) (by grind) F [] node g.2 (by grind) (by simp) hok.2.2.2 (by omega)
 simp_all
def rls2 (l:qFa)(node:Int)(k:Nat)(many:Int)(out:qFa)(R:List (Int×Int))(p:Nat):Option (qFa×Nat) :=
 if (rm R []).2=0∧((rm R []).1.length:Int)≤many-out.length then
  match gfr l k (many-out.length-(rm R []).1.length).toNat false node p with
  | .inl _=>none
  | .inr g=>some (srt (out++((rm R []).1++g.1)),g.2)
 else none
def rls1 (l:qFa)(node least:Int)(k:Nat)(many:Int)(out:qFa)(p:Nat):Option (qFa×Nat) :=
 if many-out.length=0 then some (out,p) else
 if 0<least then (rrns l p node least (many-out.length)).bind fun r=>rls2 l node k many out r.1 r.2 else rls2 l node k many out [] p
def rls (l:qFa)(p:Nat)(node:Int)(fr:qFa)(back least:Int)(k:Nat):Option (qFa×Nat) :=
 (rgam l p 300).bind fun m=>if m.1=0 then some ([],m.2) else
  if 0<back then (rblk l m.2 fr.length).bind fun b=>if (cpy fr b.1).2=0∧((cpy fr b.1).1.length:Int)≤m.1 then rls1 l node least k m.1 (cpy fr b.1).1 b.2 else none
  else rls1 l node least k m.1 [] m.2
theorem qwf {σ ρ:Type}(y:α)(k:α→Option ρ)(kl:σ→Option ρ):lbnd (some (.inl y)) k kl=k y:=rfl
theorem qhi {c:Bool}{ρ:Type}(k kl:Unit→Option ρ):lbnd (yH F c) k kl=if c then k () else kl ():=by cases c <;> rfl
theorem qv6 {l:qFa}{k:Nat}:∀ {m:Nat} {b:Bool} {a:Int} {p:Nat} {e:Int},gfr l k m b a p=.inl e→e≠0
 | 0,_,_,_,_,h=>by simp[gfr] at h
 | m+1,b,a,p,e,h=>by
  unfold gfr at h
  split at h
  ·simp_all
  ·split at h
   ·grind
   ·split at h
    ·rename_i e' he;simp only[Sum.inl.injEq] at h;rw[← h];exact qv6 he
    simp_all
theorem qv5 {l:qFa}{k:Nat}(hl:Bit l)(hk:1≤k):∀ {m:Nat} {b:Bool} {a:Int} {p:Nat} {r:qFa×Nat},p≤l.length→gfr l k m b a p=.inr r→r.2≤l.length
 | 0,_,_,p,r,hp,h=>by grind [gfr]
 | m+1,b,a,p,r,hp,h=>by
  unfold gfr at h
  split at h
  ·grind
  ·rename_i h1
   split at h
   ·grind
   ·split at h
    ·grind
    ·rename_i r' hr
     simp only[Sum.inr.injEq] at h
     rcases qAj hl (k:=k) (p:=p) hk with h2 | ⟨g,q,h2,h3,h4⟩
     ·omega
     ·rw[h2] at hr
      rw[← h]
      exact qv5 (r:=r') hl hk h4 hr
theorem qtD {k:Nat}(hF:2000000≤F)(h1:1≤k)(h2:k≤16)(hl:Bit l)(hm:l.length≤8192)(hn:Nd node){out:qFa}(ho:(out.length:Int)≤many)(hmm:many≤300)(hp:p≤l.length){x:Int×Int×Int}(hx:x.1=many) :
  Rd l (yQ F (pk l) node (k:Int) x out R (l.length:Int) (p:Int)) (rls2 l node k many out R p):=by
 unfold yQ rls2
 rw[qwp (by omega),hx]
 simp only[qCa]
 have hlen:=qA7 (R:=R) (rest:=[])
 have e1:isub .i64 many (out.length:Int)=many-out.length:=zN (by omega) (by omega)
 rw[qhi,e1]
 by_cases hc:(rm R []).2=0∧((rm R []).1.length:Int)≤many-out.length
 ·have e2:isub .i64 (many-(out.length:Int)) ((rm R []).1.length:Int)=((many-out.length-(rm R []).1.length).toNat:Int):=by grind [zN]
  rw[if_pos (by grind),if_pos hc,e2,qv7 (by omega) hl hm h1 h2 (by omega) hp hn]
  simp only[qCa]
  rw[qhi]
  cases hg:gfr l k (many-out.length-(rm R []).1.length).toNat false node p with
  | inl e =>
   have:=qv6 hg
   rw[if_neg (show ¬ ((gfI [] (Sum.inl e:Int ⊕ (qFa×Nat))).2.2 == 0)=true by simpa[gfI] using this)]
   exact ⟨_,rfl⟩
  | inr g =>
   have hgl:=qs2 hg
   rw[if_pos (show ((gfI [] (Sum.inr g:Int ⊕ (qFa×Nat))).2.2 == 0)=true by rfl),show (gfI [] (Sum.inr g:Int ⊕ (qFa×Nat))).1=g.1 from by rfl,qrp (by omega) (by omega)]
   simp only[qCa]
   rw[qy8 (by grind)]
   simp only[qCa]
   have hch:∀ {ρ:Type} (q:Option ρ),chk (decide ((srt (out++((rm R []).1++g.1))).length=(out++((rm R []).1++g.1)).length)) q=q:=fun q=>by grind [chk,qig]
   rw[hch]
   rfl
 ·rw[if_neg (by grind),if_neg hc]
  exact ⟨_,rfl⟩
theorem qtC {k:Nat}(hF:2000000≤F)(h1:1≤k)(h2:k≤16)(hl:Bit l)(hm:l.length≤8192){least:Int}(hn:Nd node){out:qFa}(ho:(out.length:Int)≤many)(hmm:many≤300)(hp:p≤l.length){x:Int×Int×Int}(hx:x.1=many)(hle:least=0∨2≤least∧least≤300) :
  Rd l (yP F (pk l) node least (k:Int) x out (l.length:Int) (p:Int)) (rls1 l node least k many out p):=by
 unfold yP rls1
 have e1:isub .i64 x.1 (out.length:Int)=many-out.length:=by grind [zN]
 rw[e1]
 by_cases h0:many-out.length=0
 ·rw[if_pos (by grind),if_pos h0]
  rfl
 ·rw[if_neg (by grind),if_neg h0]
  by_cases hs:0<least
  ·rw[if_pos (by grind),if_pos hs]
   refine qgc (quL (by omega) hl hm (by omega) (by omega) (by omega) (by omega) hn hp) (fun r hr=>?_) (fun z=>⟨_,rfl⟩)
   have hq:r.2≤l.length:=by
    unfold rrns at hr
    rw[qCV] at hr
    obtain ⟨g,hg,hr⟩:=hr
    exact (qoK (qa7 hg).2.2.2 hr).2
   grind [qtD]
  grind [qtD]
theorem qtw {b:qFa×Nat}(h:rblk l p many=some b):b.2≤l.length:=by
 unfold rblk at h
 rw[qCV] at h
 obtain ⟨g,hg,h⟩:=h
 exact (qtv (qa7 hg).2.2.2 h).2
theorem qA6 {k:Nat}(hF:2000000≤F)(h1:1≤k)(h2:k≤16)(hl:Bit l)(hm:l.length≤8192){least:Int}{fr:qFa}(hn:Nd node)(hp:p≤l.length)(hfr:0<back→gkc fr=0)(hle:least=0∨2≤least∧least≤300) :
  Rd l (vY F (l.length:Int) (pk l) (p:Int) node fr back least (k:Int)) (rls l p node fr back least k):=by
 unfold vY rls
 refine qgc (qic (by omega) hl hm hp (by omega) (by omega)) (fun m hg=>?_) (fun z=>⟨_,rfl⟩)
 have hok:=qa7 hg
 by_cases h0:m.1=0
 ·rw[if_pos (by grind),if_pos h0]
  rfl
 ·rw[if_neg (by grind),if_neg h0]
  by_cases hb:0<back
  ·have hfl:=(vz.1 (hfr hb)).1
   rw[if_pos (by grind),if_pos hb]
   refine qgc (qqq (by omega) hl hm (by omega) (by omega) hok.2.2.2) (fun b hbk=>?_) (fun z=>⟨_,rfl⟩)
   rw[qyq (by omega)]
   simp only[qCa]
   rw[qhi]
   by_cases hc:(cpy fr b.1).2=0∧((cpy fr b.1).1.length:Int)≤m.1
   ·rw[if_pos (by grind),if_pos hc]
    exact qtC hF h1 h2 hl hm hn hc.2 (by omega) (qtw hbk) rfl hle
   ·rw[if_neg (by grind),if_neg hc]
    exact ⟨_,rfl⟩
  ·rw[if_neg (by grind),if_neg hb]
   exact qtC hF h1 h2 hl hm hn (by simp_all) (by omega) hok.2.2.2 rfl hle
theorem qw5 {k:Nat}{least:Int}{fr:qFa}{r:qFa×Nat}(hl:Bit l)(h1:1≤k)(h:rls l p node fr back least k=some r):r.2≤l.length:=by
 have h2:∀ {many:Int} {out:qFa} {R:List (Int×Int)} {q:Nat},q≤l.length→rls2 l node k many out R q=some r→r.2≤l.length:=by
  intro many out R q hq hr
  unfold rls2 at hr
  split at hr
  ·split at hr
   ·grind
   ·rename_i g hg
    simp only[qCm] at hr
    rw[← hr]
    exact qv5 (r:=g) hl h1 hq hg
  simp_all
 have h3:∀ {many:Int} {out:qFa} {q:Nat},q≤l.length→rls1 l node least k many out q=some r→r.2≤l.length:=by
  intro many out q hq hr
  unfold rls1 at hr
  split at hr
  ·grind
  ·split at hr
   ·rw[qCV] at hr
    obtain ⟨r',hr1,hr2⟩:=hr
    refine h2 ?_ hr2
    unfold rrns at hr1
    rw[qCV] at hr1
    obtain ⟨g,hg,hr1⟩:=hr1
    exact (qoK (qa7 hg).2.2.2 hr1).2
   grind
 unfold rls at h
 rw[qCV] at h
 obtain ⟨m,hm,h⟩:=h
 split at h
 ·simp only[qCm] at h;rw[← h];exact (qa7 hm).2.2.2
 ·split at h
  ·rw[qCV] at h
   obtain ⟨b,hb,h⟩:=h
   grind [qtw]
  ·exact h3 (qa7 hm).2.2.2 h
def rdl (l:qFa)(p:Nat)(node:Int)(fr:qFa)(back least:Int)(k:Nat):Option (qFa×Nat) :=
 (rls l p node fr back least k).bind fun r=>if gkc r.1=0∧(enc node r.1 fr back least k).length≤8192∧p+(enc node r.1 fr back least k).length=r.2∧(l.drop p).take (enc node r.1 fr back least k).length=enc node r.1 fr back least k then some r else none
theorem qtN {F:Nat}{l e:qFa}(hl:Bit l)(hm:l.length≤8192)(he:Bit e)(hem:e.length≤8192){p:Nat}{x17:qFa×Int×Int}(h17:x17.2.1=(l.length:Int))(hpe:p+e.length≤l.length):∀ (k i:Nat),e.length<k+i→i≤e.length →
  (if (l.drop (p+i)).take (e.length-i)=e.drop i then yR F (pk l) (p:Int) x17 ((e.length:Int),pk e,false) k (i:Int)=some (x17.1,true,x17.2.1,x17.2.2)
   else ∃ a b,yR F (pk l) (p:Int) x17 ((e.length:Int),pk e,false) k (i:Int)=some ([],false,a,b))
 | 0,_,_,_=>by omega
 | k+1,i,h,hi=>by
  have hd:yR F (pk l) (p:Int) x17 ((e.length:Int),pk e,false) (k+1) (i:Int)=qbz F (pk l) (p:Int) x17 ((e.length:Int),pk e,false) (yR F (pk l) (p:Int) x17 ((e.length:Int),pk e,false) k) (i:Int):=rfl
  rw[hd]
  unfold qbz
  by_cases hlt:i<e.length
  ·rw[if_pos (show decide ((i:Int)<(((e.length:Int),pk e,false):Int×qFa×Bool).1)=true by simp_all)]
   simp only
   rw[qpy he (by omega) hlt,h17,qcw (by omega),qpy hl (by omega) (show p+i<l.length by omega)]
   simp only[qCa]
   rw[qhi]
   have ih:=qtN (F:=F) hl hm he hem h17 hpe k (i+1) (by omega) (by omega)
   have hstep:((l.drop (p+i)).take (e.length-i)=e.drop i)↔(e[i]=l[p+i]∧(l.drop (p+(i+1))).take (e.length-(i+1))=e.drop (i+1)):=by
    rw[qCk (show p+i<l.length by omega),qCk hlt,show e.length-i=(e.length-(i+1))+1 from by omega,List.take_succ_cons,qD5,show p+i+1=p+(i+1) from by omega]
    grind
   rw[qp (by omega)]
   grind
  ·obtain rfl:i=e.length:=by omega
   rw[if_neg (show ¬ decide (((e.length:Nat):Int)<(((e.length:Int),pk e,false):Int×qFa×Bool).1)=true by simp)]
   rw[if_pos (by simp)]
   rfl
theorem qyw {fr:qFa}{least:Int}{k:Nat}:1≤(enc node x fr back least k).length:=by
 grind [enc,qoj]
theorem qw9 {k:Nat}(hF:2000000≤F)(h1:1≤k)(h2:k≤16)(hl:Bit l)(hm:l.length≤8192){least:Int}{fr:qFa}(hn:Nd node)(hp:p≤l.length)(hfr:0<back→gkc fr=0)(hle:least=0∨2≤least∧least≤300) :
  match rdl l p node fr back least k with
  | none=>∃ a b,vZ F (l.length:Int) (pk l) (p:Int) node fr back least (k:Int)=some ([],false,a,b)
  | some r=>vZ F (l.length:Int) (pk l) (p:Int) node fr back least (k:Int)=some (r.1,true,(l.length:Int),(r.2:Int)):=by
 have hL:=qA6 hF h1 h2 hl hm hn hp hfr hle
 unfold vZ rdl
 cases hr:rls l p node fr back least k with
 | none =>
  rw[hr] at hL
  obtain ⟨z,hz⟩:=hL
  rw[hz]
  exact ⟨_,_,rfl⟩
 | some r =>
  rw[hr] at hL
  have hL':vY F (l.length:Int) (pk l) (p:Int) node fr back least (k:Int)=some (.inl (r.1,(l.length:Int),(r.2:Int))):=hL
  have hat:=qw5 hl h1 hr
  rw[hL',qwf,qgU (by omega)]
  simp only[qCa]
  rw[qhi]
  by_cases hg:gkc r.1=0
  ·obtain ⟨e,f,he,hrep⟩:=qqZ hF h1 h2 (x:=r.1) hn hg hfr hle
   have hen:=qyw (node:=node) (x:=r.1) (fr:=fr) (back:=back) (least:=least) (k:=k)
   rw[if_pos (show (gkc r.1 == 0)=true by grind),he]
   simp only[qCa]
   cases f with
   | true =>
    have hfl:=hrep.full rfl
    rw[qhi]
    rw[if_neg (fun hh=>by omega)]
    exact ⟨_,_,rfl⟩
   | false =>
    have hel:=hrep.ok rfl
    have heb:=hrep.bit
    have hem:=hrep.len
    rw[hel] at heb hem ⊢
    simp only[qEH,if_true]
    rw[zN (by omega) (by omega),qhi]
    by_cases hq:p+(enc node r.1 fr back least k).length=r.2
    ·rw[if_pos (show (((enc node r.1 fr back least k).length:Int) == (r.2:Int)-p)=true by grind)]
     unfold jk
     have:=qtN (F:=F) hl hm heb hem (p:=p) (x17:=(r.1,(l.length:Int),(r.2:Int))) rfl (by omega) F 0 (by omega) (by omega)
     grind
    grind
  simp_all
theorem qid {n:Nat}(hn:n≤1099511627776)(hm:(n:Int)≤most)(P R:qFa):rgam (P++(ga n++R)) P.length most=some ((n:Int),P.length+(ga n).length):=by
 unfold rgam
 rw[← qCi,qBH hn]
 grind
theorem qoI {n:Int}(h0:0≤n)(hn:n≤1099511627776)(hm:n≤most)(P R:qFa):rgam (P++(ga n.toNat++R)) P.length most=some (n,P.length+(ga n.toNat).length):=by
 grind [qid]
theorem qtu {many:Int}(hmany:many≤1000000):∀ (bs:qFa) (b:Bool) (P R:qFa),okB (!b) bs=true→(∀ n∈bs,n≤many)→rbl (P++(encBs b bs++R)) many bs.length b P.length=some (bs,P.length+(encBs b bs).length)
 | [],b,P,R,_,_=>by rfl
 | n::bs,b,P,R,h,hb=>by
  rw[qhU] at h
  simp only[qCS,qDB,decide_eq_true_eq,qDF] at h
  have hn:=hb n (by simp)
  have hv:0≤n-(if b=true then 1 else 0):=by
   grind
  unfold encBs
  simp only[qCt,rbl,qCi]
  rw[qoI hv (by omega) (by omega)]
  simp only[qCa]
  have:=qtu hmany bs true (P++ga (n-if b=true then 1 else 0).toNat) R (by simp_all) (fun z hz=>hb z (by grind))
  grind
theorem qwX (hmany:many≤1000000){bs:qFa}(P R:qFa)(h:okB true bs=true)(hb:∀ n∈bs,n≤many)(hl:(bs.length:Int)≤many+1):rblk (P++(encB bs++R)) P.length many=some (bs,P.length+(encB bs).length):=by
 grind [rblk,encB,qid,qCf,qtu,qCh]
theorem qtH {least many:Int}(hle:0≤least):∀ (R:List (Int×Int)) (b:Bool) (a q:Int) (P T:qFa),(∀ r∈R,RunOk r∧least≤r.2∧r.2-least≤many)→Nd a→Sep q R→(b=true→a+1≤q) →
  rrn (P++(encRs least b a R++T)) least many R.length b a P.length=some (R,P.length+(encRs least b a R).length)
 | [],_,_,_,P,T,_,_,_,_=>by rfl
 | r::R,b,a,q,P,T,hR,ha,hs,hb=>by
  obtain ⟨hro,hrl,hrm⟩:=hR r (by simp)
  obtain ⟨s1,s2,s3⟩:=hs
  unfold RunOk at hro
  unfold Nd at ha
  have hf:=qlx (x:=r.1-a) (by omega)
  have hf2:foldOf (r.1-a)≤2097152:=by grind [foldOf]
  have hv:0≤(if b=true then r.1-a-2 else foldOf (r.1-a))∧(if b=true then r.1-a-2 else foldOf (r.1-a))≤2097152:=by
   grind
  unfold encRs
  simp only[qCt,rrn,qCi]
  rw[qoI hv.1 (by omega) hv.2]
  simp only[qCa]
  have e1:=qoI (n:=r.2-least) (most:=many) (by omega) (by omega) hrm (P++ga (if b=true then r.1-a-2 else foldOf (r.1-a)).toNat) (encRs least true (r.1+r.2-1) R++T)
  simp only[qCi,qCh] at e1
  rw[e1]
  simp only[qCa]
  have e2:a+(if b=true then (if b=true then r.1-a-2 else foldOf (r.1-a))+2 else k5 (if b=true then r.1-a-2 else foldOf (r.1-a)))=r.1:=by
   cases b with
   | false=>simp only[qCr,if_false];rw[qkO];omega
   | true=>grind
  rw[e2,show r.2-least+least=r.2 from by omega]
  have:=qtH hle R true (r.1+r.2-1) (r.1+r.2) ((P++ga (if b=true then r.1-a-2 else foldOf (r.1-a)).toNat)++ga (r.2-least).toNat) T (fun z hz=>hR z (by grind)) (by unfold Nd;omega) s3 (fun _=>by omega)
  grind
theorem qna {least q:Int}(hle:2≤least):∀ {R:List (Int×Int)},Sep q R→(∀ r∈R,least≤r.2)→least*(R.length:Int)≤((flat R).length:Int)
 | [],_,_=>by simp
 | r::R,hs,hR=>by
  have h1:=hR r (by simp)
  have:=qna hle hs.2.2 (fun z hz=>hR z (by grind))
  rw[yg,qCh,qfi,qCt]
  grind
theorem qxa {least q:Int}(hle:2≤least)(P T:qFa)(hR:∀ r∈R,RunOk r∧least≤r.2)(hn:Nd node)(hs:Sep q R)(hm:((flat R).length:Int)≤many)(hmm:many≤300) :
  rrns (P++(encR least node R++T)) P.length node least many=some (R,P.length+(encR least node R).length):=by
 unfold rrns encR
 have h1:=qna hle hs (fun r hr=>(hR r hr).2)
 have h2:(R.length:Int)≤many/least:=by
  rw[Int.le_ediv_iff_mul_le (by omega)]
  grind
 have h3:many/least≤many:=qEs _ (by omega)
 rw[qCi,qid (by omega) h2]
 simp only[qCa,qCf]
 have:=qtH (least:=least) (many:=many) (by omega) R false node q (P++ga R.length) T (fun r hr=>⟨(hR r hr).1,(hR r hr).2,by have:=qka hr;omega⟩) hn hs (by simp)
 grind
theorem qsT {least:Int}(h:gkc rest=0):skc (encO rest least)=0∧Ris (-1) (encS rest least)∧(flat (encO rest least)++encS rest least).Perm rest∧(flat (encO rest least)).Pairwise (·≤·):=by
 obtain ⟨hm,hs⟩:=vz.1 h
 unfold encO encS
 by_cases hl:0<least
 ·rw[if_pos hl,if_pos hl]
  exact ⟨qzg hm hs _,qoP hs _,qqC _ _,qtt (qa8 (qoP hs _)).1⟩
 ·rw[if_neg hl,if_neg hl]
  exact ⟨by decide,hs,by rfl,by simp[flat]⟩
theorem qqt {k:Nat}(h1:1≤k)(h2:k≤16){least:Int}(hn:Nd node){out:qFa}(hr:gkc rest=0)(hx:gkc x=0)(hp:(out++rest).Perm x)(P T:qFa) :
  rls2 (P++(zes k (gp false node (encS rest least))++T)) node k x.length out (encO rest least) P.length=some (x,P.length+(zes k (gp false node (encS rest least))).length):=by
 obtain ⟨e1,e2,e3,e4⟩:=qsT (least:=least) hr
 have hrm:=(vz.1 hr).1
 have hlen:=e3.length_eq
 have hlen2:=hp.length_eq
 rw[qCh] at hlen hlen2
 have hrmm:rm (encO rest least) []=(flat (encO rest least),0):=quJ e1 (by decide) (by rw[qsP];simp) (by simp) e4 (by omega)
 unfold rls2
 rw[hrmm]
 simp only[true_and]
 rw[if_pos (by omega),show ((x.length:Int)-out.length-(flat (encO rest least)).length).toNat=(gp false node (encS rest least)).length from by rw[qrz];omega]
 have h40:L40 (gp false node (encS rest least)):=fun z hz=>by have:=qv9 hn e2 (by simp) z hz;omega
 have:=qs3 h1 h2 P T h40 (qzR (b:=false) hn e2 (by simp))
 rw[qCi] at this
 rw[this]
 simp only
 have hpx:(out++(flat (encO rest least)++encS rest least)).Perm x:=(List.Perm.append_left out e3).trans hp
 grind [qoN,qtt,qly]
theorem qqs {k:Nat}(h1:1≤k)(h2:k≤16){least:Int}(hn:Nd node)(hle:least=0∨2≤least∧least≤300){out:qFa}(hr:gkc rest=0)(hx:gkc x=0)(ho:out.Pairwise (·≤·))(hp:(out++rest).Perm x)(P T:qFa) :
  rls1 (P++(encL node rest least k++T)) node least k x.length out P.length=some (x,P.length+(encL node rest least k).length):=by
 have hlen2:=hp.length_eq
 have hxm:=(vz.1 hx).1
 obtain ⟨hrm,hrs⟩:=vz.1 hr
 rw[qCh] at hlen2
 unfold rls1 encL
 by_cases h0:rest=[]
 ·subst h0
  simp only[qDD,Nat.add_zero] at hlen2
  rw[if_pos (by omega),if_pos rfl]
  rw[qCM] at hp
  have e1:=qoN hp (qtt (qly hx))
  have e2:=qoN (qCI out) ho
  simp_all
 ·have hl0:rest.length≠0:=by grind
  rw[if_neg (by omega),if_neg h0]
  by_cases hl:0<least
  ·obtain ⟨e1,e2,e3,e4⟩:=qsT (least:=least) hr
   have hlen:=e3.length_eq
   rw[qCh] at hlen
   obtain ⟨r1,r2⟩:=qxb hrm hrs
   have hO:encO rest least=spO least (rs rest):=by grind [encO]
   rw[if_pos hl,if_pos hl,qCi,qxa (q:=-1) (by omega) _ _ (fun r hrr=>by rw[hO] at hrr;exact ⟨r2 r (qDd.1 hrr).1,by simpa using (qDd.1 hrr).2⟩) hn (by rw[hO];exact qfV _ r1) (by omega) (by omega)]
   grind [qqt,qCh]
  ·rw[if_neg hl,if_neg hl,qCA]
   have hO:encO rest least=[]:=by grind [encO]
   grind [qqt]
theorem qy3 {k:Nat}(h1:1≤k)(h2:k≤16){least:Int}{fr:qFa}(hn:Nd node)(hle:least=0∨2≤least∧least≤300)(hx:gkc x=0)(hfr:0<back→gkc fr=0)(P T:qFa) :
  rls (P++(enc node x fr back least k++T)) P.length node fr back least k=some (x,P.length+(enc node x fr back least k).length):=by
 have hxm:=(vz.1 hx).1
 unfold rls enc rstO
 rw[qCi,qid (by omega) (by omega)]
 simp only[qCa]
 by_cases h0:x=[]
 ·simp_all
 ·have hx0:x.length≠0:=by grind
  rw[if_neg (by omega),if_neg h0]
  by_cases hb:0<back
  ·have hfg:=hfr hb
   have hfl:=(vz.1 hfg).1
   rw[if_pos hb,if_pos hb,if_pos hb]
   have htl:=qo3 fr x
   have hok:okB true (tbs fr x)=true:=qlL _ _ _ _ (by omega) (Or.inl rfl)
   have hsum:bsum (tbs fr x)≤0+(fr.map (hasB x)).length:=qjm _ _ _ (by omega)
   rw[qCF] at hsum
   have e1:=qwX (many:=(fr.length:Int)) (by omega) (bs:=tbs fr x) (P++ga x.length) (encL node (rst fr x) least k++T) hok (fun n hnm=>by have:=qos hok n hnm;omega) (by omega)
   simp only[qCi,qCh] at e1
   rw[qCi,e1]
   simp only[qCa]
   rw[qyt hfg]
   have hbe:=qwF hfg hx
   have hfx:(fr.filter (hasB x)).length≤x.length:=by grind
   rw[if_pos ⟨rfl,by simp_all⟩]
   have hperm:(fr.filter (hasB x)++rst fr x).Perm x:=by rw[hbe];exact quq _ _
   have:=qqs h1 h2 hn hle (qtK hx) hx (qtt ((qly hfg).sublist qEe)) hperm ((P++ga x.length)++encB (tbs fr x)) T
   grind
  ·rw[if_neg hb,if_neg hb,if_neg hb,qCA]
   have:=qqs h1 h2 hn hle hx hx (out:=[]) (by simp) (by simp) (P++ga x.length) T
   grind
def hcB (back least k:Int):Prop:=back<0∨7<back∨least<0∨least=1∨300<least∨k<1∨16<k
instance hcDec (back least k:Int):Decidable (hcB back least k):=inferInstanceAs (Decidable (_∨_))
def hcE (back least k:Int):Int:=if hcB back least k then 3 else 0
def scE (node:Int)(fr:qFa)(back:Int):Int:=if Nd node then (if 0<back then gkc fr else 0) else 3
theorem qfm {least:Int}:vJ F back least k=some (hcE back least k):=by
 unfold vJ hcE
 by_cases h:hcB back least k
 ·rw[if_pos (by unfold hcB at h;grind),if_pos h]
 ·rw[if_neg (by unfold hcB at h;simp_all),if_neg h]
theorem quP (hF:20000≤F){least:Int}{fr:qFa}:qfg F node fr back least k=some (scE node fr back):=by
 grind [qfg,scE,Nd,qgU]
theorem qe4 {least:Int}(h:hcE back least k=0):(0≤back∧back≤7)∧(least=0∨2≤least∧least≤300)∧∃ k':Nat,k=(k':Int)∧1≤k'∧k'≤16:=by
 unfold hcE at h
 split at h
 ·omega
 ·rename_i h1
  unfold hcB at h1
  exact ⟨by omega,by omega,k.toNat,by omega,by omega,by omega⟩
theorem qA9 {fr:qFa}(h:scE node fr back=0):Nd node∧(0<back→gkc fr=0):=by
 grind [scE]
theorem qA8 {fr:qFa}(h:Nd node)(h2:0<back→gkc fr=0):scE node fr back=0:=by
 grind [scE]
theorem qqy {k:Nat}(hF:2000000≤F)(h1:1≤k)(h2:k≤16)(hl:Bit l)(hm:l.length≤8192){least:Int}{fr:qFa}(hn:Nd node)(hp:p≤l.length)(hfr:0<back→gkc fr=0)(hle:least=0∨2≤least∧least≤300) :
  qaK F (l.length:Int) (pk l) (p:Int) node fr back least (k:Int)=some (match rdl l p node fr back least k with | none=>([],0,1) | some r=>(r.1,(r.2:Int),0)):=by
 grind [qw9,qaK]
def swE (node:Int)(x fr:qFa)(back least k:Int):Int:=if hcE back least k≠0 then hcE back least k else if ¬ Nd node then 3 else if gkc x≠0 then gkc x else scE node fr back
def sw (node:Int)(x fr:qFa)(back least k:Int):Int×qFa×Int :=
 if swE node x fr back least k≠0 then (0,[],swE node x fr back least k) else
 if 8192<(enc node x fr back least k.toNat).length then (0,[],8) else (((enc node x fr back least k.toNat).length:Int),pk (enc node x fr back least k.toNat),0)
theorem qBi {least:Int}{fr:qFa}(h:swE node x fr back least k=0):hcE back least k=0∧Nd node∧gkc x=0∧(0<back→gkc fr=0):=by
 grind [swE,qA9]
theorem qBh {least:Int}{fr:qFa}(h1:hcE back least k=0)(h2:Nd node)(h3:gkc x=0)(h4:0<back→gkc fr=0):swE node x fr back least k=0:=by
 grind [swE,qA8]
theorem quV (hF:2000000≤F){least:Int}{fr:qFa}:qff F node x fr back least k=some (sw node x fr back least k):=by
 have hj:qbj F node x fr back least k (swE node x fr back least k)=some (sw node x fr back least k):=by
  unfold qbj sw
  by_cases h:swE node x fr back least k=0
  ·rw[if_neg (by grind),if_neg (by omega)]
   obtain ⟨h1,h2,h3,h4⟩:=qBi h
   obtain ⟨k1,k2,k',rfl,k3,k4⟩:=qe4 h1
   obtain ⟨l,f,e,hr⟩:=qqZ hF k3 k4 h2 h3 h4 k2
   rw[e]
   simp only[qCa,qCf]
   cases f with
   | true=>have:=hr.full rfl;simp_all
   | false =>
    have e1:=hr.ok rfl
    have e2:=hr.len
    simp_all
  simp_all
 unfold qff
 rw[qfm]
 simp only[qCa]
 by_cases h1:hcE back least k=0
 ·rw[if_pos (by grind),qyQ]
  grind [qbk,qbh,qgU,qbi,swE,quP]
 grind [swE,qbk,qbh,qbi]
theorem qtx {k:Nat}(h1:1≤k)(h2:k≤16){least:Int}{fr:qFa}(hn:Nd node)(hle:least=0∨2≤least∧least≤300)(hx:gkc x=0)(hfr:0<back→gkc fr=0)(P T:qFa)(hL:(enc node x fr back least k).length≤8192) :
  rdl (P++(enc node x fr back least k++T)) P.length node fr back least k=some (x,P.length+(enc node x fr back least k).length):=by
 grind [rdl,qy3]
theorem qqr {k:Nat}{least:Int}{fr:qFa}{r:qFa×Nat}(hl:Bit l)(h1:1≤k)(h:rdl l p node fr back least k=some r) :
  gkc r.1=0∧(enc node r.1 fr back least k).length≤8192∧p+(enc node r.1 fr back least k).length=r.2∧(l.drop p).take (enc node r.1 fr back least k).length=enc node r.1 fr back least k∧r.2≤l.length:=by
 unfold rdl at h
 rw[qCV] at h
 obtain ⟨r',h2,h⟩:=h
 split at h
 ·rename_i hc
  simp only[qCm] at h
  subst h
  exact ⟨hc.1,hc.2.1,hc.2.2.1,hc.2.2.2,qw5 hl h1 h2⟩
 simp_all
theorem qsU {least:Int}{fr:qFa}{k:Nat}:Bit (enc node x fr back least k):=by
 have hn:Bit ([]:qFa):=by intro z hz;grind
 have h1:∀ (bs:qFa) (b:Bool),Bit (encBs b bs):=by
  intro bs
  induction bs with
  | nil=>intro b;exact hn
  | cons n bs ih=>intro b;exact vy (qiV _) (ih true)
 have h2:∀ (R:List (Int×Int)) (b:Bool) (a:Int),Bit (encRs least b a R):=by
  intro R
  induction R with
  | nil=>intro b a;exact hn
  | cons r R ih=>intro b a;exact vy (qiV _) (vy (qiV _) (ih true _))
 grind [enc,encL,encB,encR,vy,qiV,qt4]
theorem qB0 {least:Int}{fr:qFa}(h:swE node x fr back least k=0)(h2:(enc node x fr back least k.toNat).length≤8192):sw node x fr back least k=(((enc node x fr back least k.toNat).length:Int),pk (enc node x fr back least k.toNat),0):=by
 grind [sw]
def pkH (B:Int)(r:Nat):qFa:=if 0<B then ga r else []
def pkF (g:List (qFa))(i r:Nat):qFa:=if 0<r then g.getD (i-r) [] else []
def pkW (g:List (qFa))(B least:Int)(k i r:Nat):qFa:=pkH B r++enc (i:Int) (g.getD i []) (pkF g i r) (r:Int) least k
def bwy (f:Nat→qFa):Nat→Nat×qFa
 | 0=>(0,f 0)
 | n+1=>if (f (n+1)).length<(bwy f n).2.length then (n+1,f (n+1)) else bwy f n
theorem qvt (f:Nat→qFa):∀ n:Nat,(bwy f n).1≤n∧(bwy f n).2=f (bwy f n).1
 | 0=>⟨qCq _,rfl⟩
 | n+1=>by
  have:=qvt f n
  unfold bwy
  grind
theorem qsK (f:Nat→qFa):∀ {n r:Nat},r≤n→(bwy f n).2.length≤(f r).length
 | 0,r,h=>by
  have:r=0:=by omega
  subst this;exact qCq _
 | n+1,r,h=>by
  unfold bwy
  by_cases hr:r=n+1
  ·grind
  ·have:=qsK f (n:=n) (r:=r) (by omega)
   grind
theorem qmR {f f':Nat→qFa}:∀ {n:Nat},(∀ r,r≤n→f r=f' r)→bwy f n=bwy f' n
 | 0,h=>by unfold bwy;simp_all
 | n+1,h=>by
  unfold bwy
  rw[h (n+1) (qCq _),qmR (n:=n) fun r hr=>h r (by omega)]
def pkN (g:List (qFa))(B least:Int)(k i:Nat):Nat×qFa:=bwy (pkW g B least k i) (min B.toNat i)
def pkA (g:List (qFa))(B least:Int)(k:Nat):Nat→qFa×qFa×qFa
 | 0=>([],[],[])
 | n+1=>((pkA g B least k n).1++(pkN g B least k n).2,(pkA g B least k n).2.1++[((pkN g B least k n).1:Int)],(pkA g B least k n).2.2++[((pkA g B least k n).1.length:Int)])
def pkE (g:List (qFa))(B least k:Int):Int:=if gchk g≠0 then gchk g else if hcE B least k≠0 then hcE B least k else if 8192<(pkA g B least k.toNat g.length).1.length then 8 else 0
theorem qhW {g:List (qFa)}{least:Int}(h:pkE g B least k=0):gchk g=0∧hcE B least k=0∧(pkA g B least k.toNat g.length).1.length≤8192:=by
 grind [pkE]
theorem qA1 {g:List (qFa)}{least:Int}(h1:gchk g=0)(h2:hcE B least k=0)(h3:(pkA g B least k.toNat g.length).1.length≤8192):pkE g B least k=0:=by
 grind [pkE]
theorem qoC {g:List (qFa)}{B least:Int}{k:Nat}:∀ {n i:Nat},i≤n→∃ R,(pkA g B least k n).1=(pkA g B least k i).1++R
 | 0,i,h=>by
  simp_all
 | n+1,i,h=>by
  by_cases hi:i=n+1
  ·simp_all
  ·obtain ⟨R,hR⟩:=qoC (g:=g) (B:=B) (least:=least) (k:=k) (n:=n) (i:=i) (by omega)
   grind [pkA]
theorem qqg {g:List (qFa)}{B least:Int}{k:Nat}:∀ n:Nat,(pkA g B least k n).2.1.length=n∧(pkA g B least k n).2.2.length=n
 | 0=>⟨rfl,rfl⟩
 | n+1=>by
  have:=qqg (g:=g) (B:=B) (least:=least) (k:=k) n
  grind [pkA]
theorem qhV {g:List (qFa)}{least:Int}{k n i:Nat}(h:i≤n):(pkA g B least k i).1.length≤(pkA g B least k n).1.length:=by
 obtain ⟨R,hR⟩:=qoC (g:=g) (B:=B) (least:=least) (k:=k) h
 simp_all
theorem qki {g:List (qFa)}{least:Int}{k i:Nat}:(pkN g B least k i).1≤min B.toNat i∧(pkN g B least k i).2=pkW g B least k i (pkN g B least k i).1:=qvt _ _
theorem qqh {g:List (qFa)}{least:Int}{k n i:Nat}(h:i<n):∃ R,(pkA g B least k n).1=(pkA g B least k i).1++((pkH B (pkN g B least k i).1++enc (i:Int) (g.getD i []) (pkF g i (pkN g B least k i).1) ((pkN g B least k i).1:Int) least k)++R):=by
 obtain ⟨R,hR⟩:=qoC (g:=g) (B:=B) (least:=least) (k:=k) (n:=n) (i:=i+1) h
 grind [pkA,qki,pkW]
theorem qAI {g:List (qFa)}(h:Gr g)(hl:l∈g):gkc l=0:=by
 have h1:=h.2.1 l hl
 have h2:=qcd h hl
 have h3:=h.1
 grind [vz,qoH,Nd]
theorem qok {g:List (qFa)}(h:Gr g)(i:Nat):gkc (g.getD i [])=0:=by
 by_cases hi:i<g.length
 ·grind [qAI]
 ·rw[qDl,qCP (by omega)]
  decide
theorem qkZ {g:List (qFa)}(h:Gr g)(i r:Nat):gkc (pkF g i r)=0:=by
 unfold pkF
 split
 ·exact qok h _
 rfl
def pkO (l:qFa)(B:Int)(node p:Nat):Option (Int×Nat):=if B=0 then some (0,p) else rgam l p (min B (node:Int))
def pkR (l:qFa)(B least:Int)(k:Nat):Nat→List (qFa)→Nat→Option (List (qFa)×Nat)
 | 0,out,p=>some (out,p)
 | m+1,out,p=>(pkO l B out.length p).bind fun o=>(rdl l o.2 (out.length:Int) (pkF out out.length o.1.toNat) o.1 least k).bind fun r=>pkR l B least k m (out++[r.1]) r.2
theorem qwJ {g:List (qFa)}{i:Nat}(h:r≤i)(_hi:i≤g.length):pkF (g.take i) i r=pkF g i r:=by
 grind [pkF]
theorem qoE {g:List (qFa)}(hg:Gr g){B least:Int}{k:Nat}(hh:hcE B least (k:Int)=0)(hl:(pkA g B least k g.length).1.length≤8192)(T:qFa):∀ (m i:Nat),i+m=g.length →
  pkR ((pkA g B least k g.length).1++T) B least k m (g.take i) (pkA g B least k i).1.length=some (g,(pkA g B least k g.length).1.length)
 | 0,i,h=>by
  grind [pkR]
 | m+1,i,h=>by
  have hi:i<g.length:=by omega
  obtain ⟨k1,k2,k',hk,k3,k4⟩:=qe4 hh
  have hkk:k=k':=by omega
  subst hkk
  obtain ⟨hr,_⟩:=qki (g:=g) (B:=B) (least:=least) (k:=k) (i:=i)
  have hgl:=hg.1
  have hti:(g.take i).length=i:=by grind
  obtain ⟨R,hR⟩:=qqh (g:=g) (B:=B) (least:=least) (k:=k) hi
  have hnext:=qoE hg hh hl T m (i+1) (by omega)
  have hA:(pkA g B least k (i+1)).1.length=(pkA g B least k i).1.length+(pkH B (pkN g B least k i).1).length+(enc (i:Int) (g.getD i []) (pkF g i (pkN g B least k i).1) ((pkN g B least k i).1:Int) least k).length:=by
   grind [pkA,pkW]
  have hO:pkO ((pkA g B least k g.length).1++T) B i (pkA g B least k i).1.length=some (((pkN g B least k i).1:Int),(pkA g B least k i).1.length+(pkH B (pkN g B least k i).1).length):=by
   grind [pkO,pkH,qid]
  unfold pkR
  rw[hti,hO]
  simp only[qCa,qCf]
  rw[qwJ (by omega) (by omega)]
  have hE:(enc (i:Int) (g.getD i []) (pkF g i (pkN g B least k i).1) ((pkN g B least k i).1:Int) least k).length≤8192:=by
   grind
  have hD:=qtx (k:=k) k3 k4 (node:=(i:Int)) (back:=((pkN g B least k i).1:Int)) (least:=least) (x:=g.getD i []) (fr:=pkF g i (pkN g B least k i).1) (by unfold Nd;omega) k2 (qok hg i) (fun _=>qkZ hg _ _) ((pkA g B least k i).1++pkH B (pkN g B least k i).1) (R++T) hE
  simp_all
theorem qAL {least:Int}(h:hcE B least k=0)(hr:(r:Int)≤B):hcE (r:Int) least k=0:=by
 grind [hcE,hcB]
theorem qzE (hF:2000000≤F){A:List (qFa)}{fr H:qFa}{i k:Nat}{least:Int}(hA:A.length=i)(hi:i≤100)(hx:gkc x=0)(hfr:gkc fr=0)(hh:hcE (r:Int) least (k:Int)=0)(hH:Bit H)(hHl:H.length≤100) :
  qb9 F A x (r:Int) least (k:Int) (H.length:Int) (pk H) fr=some (if (H++enc (i:Int) x fr (r:Int) least k).length≤8192 then ((r:Int),((H++enc (i:Int) x fr (r:Int) least k).length:Int),pk (H++enc (i:Int) x fr (r:Int) least k),true) else (0,0,[],false)):=by
 unfold qb9
 rw[quV hF,hA]
 simp only[qCa]
 have hE:swE (i:Int) x fr (r:Int) least (k:Int)=0:=qBh hh (by unfold Nd;omega) hx (fun _=>hfr)
 rw[qCh]
 by_cases h1:(enc (i:Int) x fr (r:Int) least k).length≤8192
 ·have hs:=qB0 hE (by simp_all)
  rw[qCf] at hs
  grind [zn,qn5,qhY,qsU,qkG,qfO]
 grind [sw]
theorem qzD (hF:2000000≤F){g:List (qFa)}(hg:Gr g){least:Int}{k i:Nat}(hh:hcE B least (k:Int)=0)(hi:i≤g.length)(hr:r≤min B.toNat i) :
  qf8 F (g.take i) (g.getD i []) (r:Int) B least (k:Int)=some (if (pkW g B least k i r).length≤8192 then ((r:Int),((pkW g B least k i r).length:Int),pk (pkW g B least k i r),true) else (0,0,[],false)):=by
 have hgl:=hg.1
 have hti:(g.take i).length=i:=by simp_all
 obtain ⟨k1,-,-⟩:=qe4 hh
 have hh':hcE (r:Int) least (k:Int)=0:=qAL hh (by omega)
 have hj:∀ H:qFa,Bit H→H.length≤100→qb8 F (g.take i) (g.getD i []) (r:Int) least (k:Int) (H.length:Int) (pk H)=some (if (H++enc (i:Int) (g.getD i []) (pkF g i r) (r:Int) least k).length≤8192 then ((r:Int),((H++enc (i:Int) (g.getD i []) (pkF g i r) (r:Int) least k).length:Int),pk (H++enc (i:Int) (g.getD i []) (pkF g i r) (r:Int) least k),true) else (0,0,[],false)):=by
  intro H hH hHl
  unfold qb8
  grind [zN,qk,pkF,qzE,qok,qkZ]
 unfold qf8 pkW pkH
 by_cases hB:0<B
 ·have hga:=qzY (n:=r) (by omega)
  rw[if_pos (by grind),if_pos hB,vL (by omega),qkH (by omega) (by omega)]
  grind [qiV]
 ·rw[if_neg (by grind),if_neg hB]
  exact hj [] (by intro z hz;grind) (by simp)
def bst (f:Nat→qFa)(j:Nat):Bool×Int×Int×qFa:=if j=0 then (false,0,0,[]) else if (bwy f (j-1)).2.length≤8192 then (true,((bwy f (j-1)).1:Int),((bwy f (j-1)).2.length:Int),pk (bwy f (j-1)).2) else (false,0,0,[])
theorem qvp {F:Nat}(hF:2000000≤F){g:List (qFa)}(hg:Gr g){B least:Int}{k i:Nat}(hh:hcE B least (k:Int)=0)(hi:i≤g.length):∀ (n j:Nat),min B.toNat i+1<n+j→j≤min B.toNat i+1 →
  vE F (g.take i) (g.getD i []) B least (k:Int) n ((bst (pkW g B least k i) j).1,(j:Int),(bst (pkW g B least k i) j).2.1,(bst (pkW g B least k i) j).2.2.1,(bst (pkW g B least k i) j).2.2.2)=some (if (pkN g B least k i).2.length≤8192 then (((pkN g B least k i).1:Int),((pkN g B least k i).2.length:Int),pk (pkN g B least k i).2,true) else (0,0,[],false))
 | 0,_,_,_=>by omega
 | n+1,j,h,hj=>by
  have hgl:=hg.1
  have hti:(g.take i).length=i:=by simp_all
  obtain ⟨k1,-,-⟩:=qe4 hh
  show qeV F (g.take i) (g.getD i []) B least (k:Int) (vE F (g.take i) (g.getD i []) B least (k:Int) n) (bst (pkW g B least k i) j).1 (j:Int) (bst (pkW g B least k i) j).2.1 (bst (pkW g B least k i) j).2.2.1 (bst (pkW g B least k i) j).2.2.2=_
  unfold qeV
  have hmin:imin B ((g.take i).length:Int)=((min B.toNat i:Nat):Int):=by
   grind [imin]
  rw[hmin,zn (by omega) (by omega)]
  by_cases hlt:j<min B.toNat i+1
  ·rw[if_pos (by grind),qzD hF hg hh hi (by omega)]
   simp only[qCa]
   have hrec:=qvp hF hg hh hi n (j+1) (by omega) (by omega)
   have hnew:(pkW g B least k i j).length≤8192→bwy (pkW g B least k i) j=(j,pkW g B least k i j)→vD F (vE F (g.take i) (g.getD i []) B least (k:Int) n) (j:Int) true (j:Int) ((pkW g B least k i j).length:Int) (pk (pkW g B least k i j))=some (if (pkN g B least k i).2.length≤8192 then (((pkN g B least k i).1:Int),((pkN g B least k i).2.length:Int),pk (pkN g B least k i).2,true) else (0,0,[],false)):=by
    grind [vD,qp,bst]
   have hold:bst (pkW g B least k i) (j+1)=bst (pkW g B least k i) j→vD F (vE F (g.take i) (g.getD i []) B least (k:Int) n) (j:Int) (bst (pkW g B least k i) j).1 (bst (pkW g B least k i) j).2.1 (bst (pkW g B least k i) j).2.2.1 (bst (pkW g B least k i) j).2.2.2=some (if (pkN g B least k i).2.length≤8192 then (((pkN g B least k i).1:Int),((pkN g B least k i).2.length:Int),pk (pkN g B least k i).2,true) else (0,0,[],false)):=by
    grind [vD,qp]
   unfold qcJ
   by_cases hl:(pkW g B least k i j).length≤8192
   ·rw[if_pos hl]
    simp only[if_true]
    by_cases h0:j=0
    ·subst h0
     rw[if_pos (by rfl)]
     exact hnew hl rfl
    ·obtain ⟨q,rfl⟩:∃ q,j=q+1:=⟨j-1,by omega⟩
     grind [bwy,bst]
   ·rw[if_neg hl]
    simp only[qCr,if_false]
    refine hold ?_
    unfold bst
    rw[if_neg (by omega),qD6]
    by_cases h0:j=0
    ·subst h0
     rw[if_pos rfl,bwy,if_neg hl]
    ·obtain ⟨q,rfl⟩:∃ q,j=q+1:=⟨j-1,by omega⟩
     grind [bwy]
  grind [qfH,bst,pkN]
theorem qyf (hF:2000000≤F){g:List (qFa)}(hg:Gr g){least:Int}{k i:Nat}(hh:hcE B least (k:Int)=0)(hi:i≤g.length) :
  qf7 F (g.take i) (g.getD i []) B least (k:Int)=some (if (pkN g B least k i).2.length≤8192 then (((pkN g B least k i).1:Int),((pkN g B least k i).2.length:Int),pk (pkN g B least k i).2,true) else (0,0,[],false)):=by
 have hgl:=hg.1
 have:=qvp hF hg hh hi F 0 (by omega) (qCH _)
 exact this
theorem qyW {g:List (qFa)}{least:Int}{k i:Nat}:Bit (pkW g B least k i r):=by
 grind [pkW,pkH,vy,qsU,qiV]
theorem qoD {g:List (qFa)}{least:Int}{k i:Nat}:Bit (pkN g B least k i).2:=by
 grind [qki,qyW]
theorem qhl {g:List (qFa)}{B least:Int}{k:Nat}:∀ n:Nat,Bit (pkA g B least k n).1
 | 0=>by intro z hz;simp[pkA] at hz
 | n+1=>by unfold pkA;exact vy (qhl n) qoD
theorem qp0 {g:List (qFa)}{i:Nat}(h:i<g.length):idx g (i:Int)=some (g.getD i []):=by
 grind [qk]
theorem qts {F:Nat}(hF:2000000≤F){g:List (qFa)}(hg:Gr g){N B least:Int}{k:Nat}(hh:hcE B least (k:Int)=0):∀ (j i:Nat),g.length<j+i→i≤g.length→(pkA g B least k i).1.length≤8192 →
  ∃ z,zr F N B least (k:Int) g j ((i:Int),((pkA g B least k i).1.length:Int),pk (pkA g B least k i).1,(pkA g B least k i).2.1,(pkA g B least k i).2.2)=some z∧z.1=decide ((pkA g B least k g.length).1.length≤8192) ∧
   (z.1=true→z=(true,N,B,least,(k:Int),((pkA g B least k g.length).1.length:Int),pk (pkA g B least k g.length).1,(pkA g B least k g.length).2.1,(pkA g B least k g.length).2.2))
 | 0,_,_,_,_=>by omega
 | j+1,i,h,hi,hA=>by
  have hgl:=hg.1
  show ∃ z,qaU F N B least (k:Int) g (zr F N B least (k:Int) g j) (i:Int) ((pkA g B least k i).1.length:Int) (pk (pkA g B least k i).1) (pkA g B least k i).2.1 (pkA g B least k i).2.2=some z∧_
  unfold qaU
  by_cases hlt:i<g.length
  ·have e0:sub g 0 (i:Int)=some (g.take i):=by
    have:=qkN (l:=g) (i:=0) (j:=i) (by omega) hi
    simp_all
   have hstep:(pkA g B least k (i+1)).1.length=(pkA g B least k i).1.length+(pkN g B least k i).2.length:=by rw[pkA,qCh]
   have hmono:=qhV (g:=g) (B:=B) (least:=least) (k:=k) (show i+1≤g.length from hlt)
   rw[if_pos (by simp_all),qp0 hlt,e0]
   simp only[qCa]
   rw[qyf hF hg hh hi]
   simp only[qCa]
   unfold vI
   by_cases h1:(pkN g B least k i).2.length≤8192
   ·rw[if_pos h1]
    simp only[qC9,qCr,if_false]
    rw[zn (by omega) (by omega)]
    unfold yo
    by_cases h2:(pkA g B least k i).1.length+(pkN g B least k i).2.length≤8192
    ·rw[if_neg (by grind)]
     have hl:=qqg (g:=g) (B:=B) (least:=least) (k:=k) i
     rw[kY (by grind)]
     simp only[qCa]
     rw[kY (by grind)]
     simp only[qCa]
     unfold yp
     rw[qn5 (by omega) (qhY (qhl i)) (qhY qoD) (qkG hA) (qkG h1),qfO (qhl i),qfO qoD]
     simp only[qCa]
     have:=qts hF hg (N:=N) hh j (i+1) (by omega) (by omega) (by omega)
     rw[qp (by omega),← hstep]
     exact this
    ·rw[if_pos (by grind)]
     grind
   ·rw[if_neg h1]
    simp only[qEH,if_true]
    unfold yo
    grind
  ·rw[if_neg (by simp_all)]
   have:i=g.length:=by omega
   subst this
   unfold qaV
   simp_all
theorem qng (hF:2000000≤F){g:List (qFa)}{least:Int} :
  ∃ z1 z2 z3 z4 z5 z6 z7 z8,qcy F g B least k=some (z1,z2,z3,z4,z5,z6,z7,z8,pkE g B least k) ∧
   (pkE g B least k=0→(z1,z2,z3,z4,z5,z6,z7,z8)=((g.length:Int),B,least,k,((pkA g B least k.toNat g.length).1.length:Int),pk (pkA g B least k.toNat g.length).1,(pkA g B least k.toNat g.length).2.1,(pkA g B least k.toNat g.length).2.2)):=by
 unfold qcy
 rw[vb (by omega)]
 simp only[qCa]
 by_cases h1:gchk g=0
 ·rw[if_pos (by grind),qfm]
  simp only[qCa]
  unfold qat
  by_cases h2:hcE B least k=0
  ·rw[if_pos (by grind)]
   obtain ⟨_,_,k',rfl,_,_⟩:=qe4 h2
   have hg:=yC.1 h1
   have hgl:=hg.1
   obtain ⟨z,hz,hz1,hz2⟩:=qts hF hg (N:=(g.length:Int)) h2 F 0 (by omega) (qCH _) (by simp[pkA])
   have hz':qcQ F (g.length:Int) B least (k':Int) 0 [] [] [] g=some z:=by
    have e:pk ([]:qFa)=[]:=by rfl
    simp only[pkA,qDD,e] at hz
    exact hz
   rw[hz']
   simp only[qCa]
   unfold vO vN
   rw[qCf]
   by_cases h3:(pkA g B least k' g.length).1.length≤8192
   ·rw[decide_eq_true h3] at hz1
    have:=hz2 hz1
    have hE:pkE g B least (k':Int)=0:=qA1 h1 h2 (by simp_all)
    grind
   ·rw[decide_eq_false h3] at hz1
    have hE:pkE g B least (k':Int)=8:=by
     grind [pkE]
    simp_all
  ·have hE:pkE g B least k=hcE B least k:=by
    grind [pkE]
   rw[if_neg (by grind),hE]
   unfold vO vN
   simp_all
 ·have hE:pkE g B least k=gchk g:=by
   grind [pkE]
  rw[if_neg (by grind),hE]
  unfold qat vO vN
  simp_all
def pwr (g:List (qFa))(B least k:Int):Int×Int×Int×Int×Int×qFa×Int :=
 if pkE g B least k≠0 then (0,0,0,0,0,[],pkE g B least k) else ((g.length:Int),B,least,k,((pkA g B least k.toNat g.length).1.length:Int),pk (pkA g B least k.toNat g.length).1,0)
def ptl (g:List (qFa))(B least k:Int):qFa×qFa×Int :=
 if pkE g B least k≠0 then ([],[],pkE g B least k) else ((pkA g B least k.toNat g.length).2.1,(pkA g B least k.toNat g.length).2.2,0)
theorem qkm (hF:2000000≤F){g:List (qFa)}{least:Int}:qaT F g B least k=some (pwr g B least k):=by
 obtain ⟨z1,z2,z3,z4,z5,z6,z7,z8,hz,hz2⟩:=qng hF (g:=g) (B:=B) (least:=least) (k:=k)
 unfold qaT pwr
 grind
theorem qwQ (hF:2000000≤F){g:List (qFa)}{least:Int}:qeF F g B least k=some (ptl g B least k):=by
 obtain ⟨z1,z2,z3,z4,z5,z6,z7,z8,hz,hz2⟩:=qng hF (g:=g) (B:=B) (least:=least) (k:=k)
 unfold qeF ptl
 grind
theorem qwH {F:Nat}{xs ys:qFa}(he:xs.length=ys.length)(hm:xs.length≤1000000):∀ (k i:Nat),xs.length<k+i→i≤xs.length→kA F xs ys k (i:Int)=some (decide (xs.drop i=ys.drop i))
 | 0,_,_,_=>by omega
 | k+1,i,h,hi=>by
  show kz F xs ys (kA F xs ys k) (i:Int)=_
  unfold kz
  by_cases hlt:i<xs.length
  ·have hlt':i<ys.length:=by omega
   rw[if_pos (by simp;omega),qk,qCb hlt,qk,qCb hlt']
   simp only[qCa]
   rw[qCk hlt,qCk hlt']
   by_cases hc:xs[i]=ys[i]
   ·rw[if_neg (by simp[hc]),qp (by omega),qwH he hm k (i+1) (by omega) (by omega)]
    congr 1
    rw[decide_eq_decide,qD5]
    exact ⟨fun h=>⟨hc,h⟩,fun h=>h.2⟩
   ·rw[if_pos (by simpa using hc),decide_eq_false (fun e=>hc (List.cons.inj e).1)]
  ·rw[if_neg (by simp;omega),qCp (by omega),qCp (by omega)]
   rfl
theorem peqb {xs ys:qFa}(hF:xs.length<F)(hm:xs.length≤1000000):zb F xs ys=some (decide (xs=ys)):=by
 unfold zb
 by_cases h:xs.length=ys.length
 ·rw[if_neg (by simp[h])]
  have:=qwH (F:=F) h hm F 0 (by omega) (qCH _)
  rw[qCJ,qCJ] at this
  exact this
 ·rw[if_pos (by simp;omega),decide_eq_false (fun e=>h (by rw[e]))]
theorem quI (h:rgam l p most=none):(fg l p).2.2≠0∨most<(fg l p).1:=by
 unfold rgam at h
 by_cases h1:(fg l p).2.2=0
 ·right
  by_cases h2:(fg l p).1≤most
  ·rw[if_pos ⟨h1,h2⟩] at h;simp at h
  ·omega
 ·left;exact h1
theorem qtz {x:Int×Nat}(h:rgam l p most=some x):fg l p=(x.1,(x.2:Int),0)∧x.1≤most:=by
 unfold rgam at h
 split at h
 ·rename_i hc
  simp only[qCm] at h
  rw[← h]
  have h3:0≤(fg l p).2.1:=by
   rcases qvW (l:=l) (a:=p) with h1 | ⟨n,q,h1,h2,h3⟩
   ·exact absurd hc.1 h1
   ·rw[h1];simp
  refine ⟨?_,hc.2⟩
  simp only
  rw[Int.toNat_of_nonneg h3,← hc.1]
 ·simp at h
theorem qwK (_hB:0≤B){node:Nat}(hp:p≤l.length){o:Int×Nat}(h:pkO l B node p=some o):0≤o.1∧o.1≤min B (node:Int)∧o.2≤l.length:=by
 unfold pkO at h
 split at h
 ·simp only[qCm] at h
  subst h
  simp only
  omega
 ·have:=qa7 h
  omega
theorem qtq (hF:20000≤F)(hl:Bit l)(hm:l.length≤8192){least:Int}(hB:0≤B∧B≤7){node:Nat}(hn:node≤1000)(hp:p≤l.length) :
  qfG F N B least k (l.length:Int) (pk l) (p:Int) (node:Int)=some (match pkO l B node p with | none=>(0,0,false) | some o=>(o.1,(o.2:Int),true)):=by
 unfold qfG pkO
 by_cases h0:B=0
 ·rw[if_pos (by simpa using h0),if_pos h0]
 ·rw[if_neg (by simpa using h0),if_neg h0,qju hF hl hm hp]
  simp only[qCa]
  have hmin:imin B (node:Int)=min B (node:Int):=by unfold imin;split <;> omega
  have hcv:iconv .u64 (min B (node:Int))=min B (node:Int):=by
   obtain ⟨q,hq⟩:=qCd (a:=min B (node:Int)) (by omega)
   rw[hq];exact vL (by omega)
  unfold qeo
  rw[hmin,hcv]
  cases hr:rgam l p (min B (node:Int)) with
  | none =>
   rcases quI hr with h1 | h1
   ·rw[if_pos (by simpa using h1),if_pos rfl]
   ·by_cases h2:(fg l p).2.2=0
    ·rw[if_neg (by simp[h2]),if_pos (by simpa using h1)]
    ·rw[if_pos (by simpa using h2),if_pos rfl]
  | some x =>
   obtain ⟨h1,h2⟩:=qtz hr
   have hok:=qa7 hr
   rw[h1]
   simp only
   rw[if_neg (by simp),if_neg (by simp;omega)]
   have e:iconv .i64 x.1=x.1:=yD (by omega) (by omega)
   rw[e]
theorem qql {F k:Nat}(hF:2000000≤F){l:qFa}(hl:Bit l)(hm:l.length≤8192){B least:Int}(hh:hcE B least (k:Int)=0){n:Nat}(hn:n≤100):∀ (j p:Nat) (out:List (qFa)),n<j+out.length→out.length≤n→p≤l.length→(∀ x∈out,gkc x=0) →
  qbc F (n:Int) B least (k:Int) (l.length:Int) (pk l) j (out,(p:Int),(out.length:Int))=some (match pkR l B least k (n-out.length) out p with | none=>([],false) | some r=>(r.1,decide (r.2=l.length)))
 | 0,_,_,_,_,_,_=>by omega
 | j+1,p,out,h,ho,hp,hg=>by
  obtain ⟨k1,k2,k',hk,k3,k4⟩:=qe4 hh
  have hkk:k=k':=by omega
  subst hkk
  show qeW F (n:Int) B least (k:Int) (l.length:Int) (pk l) (qbc F (n:Int) B least (k:Int) (l.length:Int) (pk l) j) out (p:Int) (out.length:Int)=_
  unfold qeW
  by_cases hlt:out.length<n
  ·rw[if_pos (by simp;omega),qtq (by omega) hl hm k1 (by omega) hp,show n-out.length=(n-(out.length+1))+1 from by omega]
   simp only[qCa,pkR]
   cases hO:pkO l B out.length p with
   | none=>rfl
   | some o =>
    obtain ⟨o1,o2,o3⟩:=qwK k1.1 hp hO
    simp only[qC9,qCr,if_false,qCa]
    have hfr:gkc (pkF out out.length o.1.toNat)=0:=by
     unfold pkF
     split
     ·rw[qDl]
      by_cases hq:out.length-o.1.toNat<out.length
      ·rw[qCb hq];exact hg _ (qCs hq)
      ·rw[qCP (by omega)];decide
     ·decide
    have hstep:∀ fr:qFa,fr=pkF out out.length o.1.toNat→((qaK F (l.length:Int) (pk l) (o.2:Int) (out.length:Int) fr o.1 least (k:Int)).bind fun x488=>(if ((x488.2.2:Int) != 0) then some (([]:List (qFa)),false) else ((app 2199023255552 out ([x488.1]:List (qFa))).bind fun x494=>qbb F (qbc F (n:Int) B least (k:Int) (l.length:Int) (pk l) j) (out.length:Int) x494 x488.2.1)))=some (match (rdl l o.2 (out.length:Int) (pkF out out.length o.1.toNat) o.1 least k).bind fun r=>pkR l B least k (n-(out.length+1)) (out++[r.1]) r.2 with | none=>([],false) | some r=>(r.1,decide (r.2=l.length))):=by
     intro fr hfe
     subst hfe
     rw[qqy hF k3 k4 hl hm (by unfold Nd;omega) o3 (fun _=>hfr) k2]
     simp only[qCa]
     cases hr:rdl l o.2 (out.length:Int) (pkF out out.length o.1.toNat) o.1 least k with
     | none=>rfl
     | some r =>
      obtain ⟨r1,r2,r3,r4,r5⟩:=qqr hl k3 hr
      simp only[qCa]
      rw[if_neg (by simp),kY (by simp;omega)]
      simp only[qCa]
      unfold qbb
      have hl1:(out++[r.1]).length=out.length+1:=by simp
      have hrec:=qql hF hl hm hh hn j r.2 (out++[r.1]) (by omega) (by omega) r5 (fun x hx=>by
       rcases qCg.1 hx with hx | hx
       ·exact hg x hx
       ·simp at hx;subst hx;exact r1)
      rw[hl1] at hrec
      rw[qp (by omega),hrec]
    by_cases h0:0<o.1
    ·rw[if_pos (by simpa using h0),zN (by omega) (by omega),show ((out.length:Int)-o.1)=((out.length-o.1.toNat:Nat):Int) from by omega,qp0 (by omega)]
     simp only[qCa]
     exact hstep _ (by unfold pkF;rw[if_pos (by omega)])
    ·rw[if_neg (by simpa using h0)]
     exact hstep _ (by unfold pkF;rw[if_neg (by omega)])
  ·rw[if_neg (by simp;omega),show n-out.length=0 from by omega]
   unfold qeX
   simp only[pkR]
   congr 2
   by_cases hpl:p=l.length
   ·subst hpl;simp
   ·rw[decide_eq_false hpl];simp;omega
def pcE (N B least k m:Int)(b:qFa):Int:=if N<0∨100<N then 3 else if hcE B least k≠0 then hcE B least k else chkOf m b
def prd (N B least k m:Int)(b:qFa):List (qFa)×Int :=
 if pcE N B least k m b≠0 then ([],pcE N B least k m b) else
 match pkR (bl b m.toNat) B least k.toNat N.toNat [] 0 with
 | none=>([],1)
 | some r=>if r.2=m.toNat∧pkE r.1 B least k=0∧pk (pkA r.1 B least k.toNat r.1.length).1=b then (r.1,0) else ([],1)
theorem qrU {least m:Int}(hb:U8s b)(hm:I64 m)(lb:b.length≤9223372036854775807):qfb F N B least k m b=some (pcE N B least k m b):=by
 unfold qfb pcE
 by_cases h1:N<0∨100<N
 ·rw[if_pos (by simpa using h1),if_pos h1]
 ·rw[if_neg (by simpa using h1),if_neg h1,qfm]
  simp only[qCa]
  by_cases h2:hcE B least k=0
  ·rw[if_neg (by simp[h2]),if_neg (by simp[h2]),qlm hb hm.1 hm.2 lb]
   rfl
  ·rw[if_pos (by simpa using h2),if_pos h2]
theorem qwG {least m:Int}(hb:U8s b)(h:pcE N B least k m b=0):∃ (n:Nat) (l:qFa),N=(n:Int)∧n≤100∧hcE B least k=0∧Bit l∧l.length≤8192∧m=(l.length:Int)∧b=pk l:=by
 unfold pcE at h
 by_cases h1:N<0∨100<N
 ·rw[if_pos h1] at h;simp at h
 ·rw[if_neg h1] at h
  by_cases h2:hcE B least k=0
  ·rw[if_neg (by simp[h2])] at h
   rcases qln hb (n:=m) with h3 | ⟨l,hl,hm,e1,e2⟩
   ·exact absurd h h3
   ·exact ⟨N.toNat,l,by omega,by omega,h2,hl,hm,e1,e2⟩
  ·rw[if_pos h2] at h;exact absurd h h2
theorem qwP (hF:2000000≤F){least m:Int}(hb:U8s b)(hm:I64 m)(lb:b.length≤9223372036854775807):qf6 F N B least k m b=some (prd N B least k m b):=by
 unfold qf6 prd
 rw[qrU hb hm lb]
 simp only[qCa]
 by_cases h:pcE N B least k m b=0
 ·rw[if_neg (by simp[h]),if_neg (by simp[h])]
  obtain ⟨n,l,rfl,hn,hh,hl,hlm,rfl,rfl⟩:=qwG hb h
  obtain ⟨k1,k2,k',rfl,k3,k4⟩:=qe4 hh
  have hL:=qql (F:=F) hF hl hlm hh hn F 0 [] (by simp;omega) (qCH _) (qCH _) (by simp)
  have hL':qg8 F (n:Int) B least (k':Int) (l.length:Int) (pk l)=_:=hL
  rw[hL']
  simp only[qCa,qDD,Nat.sub_zero,qCf,qfO hl]
  cases hr:pkR l B least k' n [] 0 with
  | none=>rfl
  | some r =>
   simp only
   by_cases hp:r.2=l.length
   ·rw[decide_eq_true hp,if_neg (by simp),qkm hF]
    simp only[qCa]
    unfold pwr qdr
    by_cases hE:pkE r.1 B least (k':Int)=0
    ·rw[if_neg (by simp[hE])]
     simp only[qCf]
     obtain ⟨_,_,hA⟩:=qhW hE
     rw[qCf] at hA
     rw[if_neg (by simp[hE]),peqb (by rw[qhX];omega) (by rw[qhX];omega)]
     simp only[qCa]
     by_cases hq:pk (pkA r.1 B least k' r.1.length).1=pk l
     ·rw[decide_eq_true hq,if_neg (by simp),if_pos ⟨hp,hE,hq⟩]
     ·rw[decide_eq_false hq,if_pos (by simp),if_neg (fun hc=>hq hc.2.2)]
    ·rw[if_pos hE,if_pos (by simpa using hE),if_pos rfl,if_neg (fun hc=>hE hc.2.1)]
   ·rw[decide_eq_false hp,if_pos (by simp),if_neg (fun hc=>hp hc.1)]
 ·rw[if_pos (by simpa using h),if_pos h]
theorem qw3 (hl:Bit l){x:Int×Nat}(h:rgam l p most=some x):x.2=p+(ga x.1.toNat).length:=by
 have hf:=(qtz h).1
 unfold fg at hf
 cases hz:fz (l.drop p) with
 | none=>rw[hz] at hf;simp at hf
 | some k =>
  rw[hz] at hf
  simp only at hf
  unfold numOf at hf
  by_cases h1:64≤k
  ·rw[if_pos h1] at hf;simp at hf
  ·rw[if_neg h1] at hf
   by_cases h2:l.length<p+k+1+k
   ·rw[if_pos h2] at hf;simp at hf
   ·rw[if_neg h2] at hf
    by_cases h3:1099511627776<bv ((l.drop (p+k+1)).take k)+2^k-1
    ·rw[if_pos h3] at hf;simp at hf
    ·rw[if_neg h3] at hf
     simp only[qEN,and_true] at hf
     have hb:=qsJ (qjk (qhL hl (p+k+1)) k)
     rw[qCo,List.length_drop,Nat.min_eq_left (by omega)] at hb
     have hp0:0<2^k:=qDO (by decide)
     have hn:x.1.toNat=bv ((l.drop (p+k+1)).take k)+2^k-1:=by omega
     have hlg:lg x.1.toNat=k:=quy (by omega) (by rw[Nat.pow_succ];omega)
     rw[qoj,hlg]
     omega
theorem qyV (hl:Bit l)(hB:0≤B){node:Nat}{o:Int×Nat}(h:pkO l B node p=some o):o.2=p+(pkH B o.1.toNat).length:=by
 unfold pkO at h
 unfold pkH
 split at h
 ·rename_i h0
  simp only[qCm] at h
  subst h
  rw[if_neg (by omega)]
  simp
 ·rw[if_pos (by omega)]
  exact qw3 hl h
theorem qpZ {g:List (qFa)}{i:Nat}(h:i<g.length):(g++[x]).getD i []=g.getD i []:=by
 rw[qDl,qDl,List.getElem?_append_left h]
theorem qtl {g:List (qFa)}{i:Nat}(h:i≤g.length)(hr:r≤i):pkF (g++[x]) i r=pkF g i r:=by
 unfold pkF
 split
 ·exact qpZ (by omega)
 ·rfl
theorem qyU {g:List (qFa)}{least:Int}{k i:Nat}(h:i<g.length):pkN (g++[x]) B least k i=pkN g B least k i:=by
 unfold pkN
 refine qmR fun r hr=>?_
 unfold pkW
 rw[qpZ h,qtl (by omega) (by omega)]
theorem qtk {g:List (qFa)}{x:qFa}{B least:Int}{k:Nat}:∀ {i:Nat},i≤g.length→pkA (g++[x]) B least k i=pkA g B least k i
 | 0,_=>rfl
 | i+1,h=>by
  unfold pkA
  rw[qtk (i:=i) (by omega),qyU (by omega)]
theorem qqi {l:qFa}(hl:Bit l){B least:Int}{k:Nat}(hB:0≤B)(hk:1≤k):∀ (m p:Nat) (out:List (qFa)) (r:List (qFa)×Nat),pkR l B least k m out p=some r→p≤l.length→(pkA out B least k out.length).1.length≤p →
  r.1.length=out.length+m∧(pkA r.1 B least k r.1.length).1.length≤r.2
 | 0,p,out,r,h,_,hA=>by
  simp only[pkR,qCm] at h
  subst h
  exact ⟨rfl,hA⟩
 | m+1,p,out,r,h,hp,hA=>by
  unfold pkR at h
  rw[qCV] at h
  obtain ⟨o,ho,h⟩:=h
  rw[qCV] at h
  obtain ⟨d,hd,h⟩:=h
  obtain ⟨o1,o2,o3⟩:=qwK hB hp ho
  have hol:=qyV hl hB ho
  obtain ⟨d1,d2,d3,d4,d5⟩:=qqr hl hk hd
  have hn1:(out++[d.1]).length=out.length+1:=by simp
  have hmin:=qsK (pkW (out++[d.1]) B least k out.length) (n:=min B.toNat out.length) (r:=o.1.toNat) (by omega)
  have hW:(pkW (out++[d.1]) B least k out.length o.1.toNat).length=(pkH B o.1.toNat).length+(enc (out.length:Int) d.1 (pkF out out.length o.1.toNat) o.1 least k).length:=by
   unfold pkW
   rw[qCh,qtl (qCq _) (by omega),show ((o.1.toNat:Nat):Int)=o.1 from by omega]
   congr 3
   rw[qDl,List.getElem?_append_right (qCq _)]
   simp
  have hrec:=qqi hl hB hk m d.2 (out++[d.1]) r h d5 (by
   rw[hn1,pkA,qCh,qtk (qCq _)]
   unfold pkN
   omega)
  rw[hn1] at hrec
  exact ⟨by omega,hrec.2⟩
theorem qA4 {g:List (qFa)}{least:Int}(h:pkE g B least k=0):prd (g.length:Int) B least k ((pkA g B least k.toNat g.length).1.length:Int) (pk (pkA g B least k.toNat g.length).1)=(g,0):=by
 obtain ⟨h1,h2,h3⟩:=qhW h
 have hg:=yC.1 h1
 have hgl:=hg.1
 obtain ⟨k1,k2,k',rfl,k3,k4⟩:=qe4 h2
 rw[qCf] at h3 ⊢
 have hE:pcE (g.length:Int) B least (k':Int) ((pkA g B least k' g.length).1.length:Int) (pk (pkA g B least k' g.length).1)=0:=by
  unfold pcE
  rw[if_neg (by omega),if_neg (by simp[h2]),qlo h3]
 have hr:=qoE hg h2 h3 [] g.length 0 (by omega)
 have hr':pkR (pkA g B least k' g.length).1 B least k' g.length [] 0=some (g,(pkA g B least k' g.length).1.length):=by
  rw[qCM] at hr
  exact hr
 unfold prd
 rw[if_neg (by simp[hE])]
 simp only[qCf]
 rw[qfO (qhl _),hr']
 simp only
 rw[if_pos ⟨trivial,h,trivial⟩]
theorem qA5 {least m:Int}(hb:U8s b)(h:(prd N B least k m b).2=0):∃ g,prd N B least k m b=(g,0)∧pkE g B least k=0∧N=(g.length:Int)∧m=((pkA g B least k.toNat g.length).1.length:Int)∧b=pk (pkA g B least k.toNat g.length).1:=by
 have h0:=h
 unfold prd at h
 by_cases hE:pcE N B least k m b=0
 ·rw[if_neg (by simp[hE])] at h
  obtain ⟨n,l,rfl,hn,hh,hl,hlm,rfl,rfl⟩:=qwG hb hE
  obtain ⟨k1,k2,k',rfl,k3,k4⟩:=qe4 hh
  simp only[qCf,qfO hl] at h
  cases hr:pkR l B least k' n [] 0 with
  | none=>rw[hr] at h;simp at h
  | some r =>
   rw[hr] at h
   simp only at h
   split at h
   ·rename_i hc
    obtain ⟨c1,c2,c3⟩:=hc
    obtain ⟨g1,g2,g3⟩:=qhW c2
    rw[qCf] at g3
    have hg:=yC.1 g1
    obtain ⟨b1,b2⟩:=qqi hl k1.1 k3 n 0 [] r hr (qCH _) (by simp[pkA])
    rw[qDD,qC0] at b1
    have hq:l=(pkA r.1 B least k' r.1.length).1++l.drop (pkA r.1 B least k' r.1.length).1.length:=by
     have e1:l.take (pkA r.1 B least k' r.1.length).1.length=(pkA r.1 B least k' r.1.length).1:=by
      have:=qyi (b:=pk l) (n:=(pkA r.1 B least k' r.1.length).1.length) (m:=l.length) (by omega)
      rw[qfO hl,← c3,qfO (qhl _)] at this
      exact this
     conv=>lhs;rw[← List.take_append_drop (pkA r.1 B least k' r.1.length).1.length l,e1]
    have hr2:=qoE hg hh g3 (l.drop (pkA r.1 B least k' r.1.length).1.length) r.1.length 0 (by omega)
    rw[← hq] at hr2
    have hr3:pkR l B least k' n [] 0=some (r.1,(pkA r.1 B least k' r.1.length).1.length):=by
     rw[← b1];exact hr2
    rw[hr] at hr3
    have e2:r.2=(pkA r.1 B least k' r.1.length).1.length:=by
     have:=Option.some.inj hr3
     rw[this]
    refine ⟨r.1,?_,c2,by omega,by rw[qCf];omega,by rw[qCf];exact c3.symm⟩
    unfold prd
    rw[if_neg (by simp[hE])]
    simp only[qCf,qfO hl,hr]
    rw[if_pos ⟨c1,c2,c3⟩]
   ·simp at h
 ·rw[if_pos hE] at h
  exact absurd h hE
def plc (bit:Int):qFa→Nat→Option Nat
 | [],_=>none
 | x::l,i=>if x=bit then (match i with | 0=>some 0 | i+1=>(plc bit l i).map (·+1)) else (plc bit l i).map (·+1)
theorem qlQ (bit x:Int)(l:qFa)(i:Nat):plc bit (x::l) i=if x=bit then (match i with | 0=>some 0 | i+1=>(plc bit l i).map (·+1)) else (plc bit l i).map (·+1):=rfl
theorem qoF {F:Nat}{l:qFa}(hl:Bit l)(hm:l.length≤10000)(bit:Int):∀ (k j i:Nat),l.length<k+j→j≤l.length→i<9223372036854775808 →
  (∃ s,plc bit (l.drop j) i=none∧zA F (fun (x31:Int) (x37:Int)=>zk F x31 x37) (l.length:Int) (pk l) bit k ((j:Int),(i:Int))=some (.inl s)) ∨
  (∃ a q,plc bit (l.drop j) i=some a∧zA F (fun (x31:Int) (x37:Int)=>zk F x31 x37) (l.length:Int) (pk l) bit k ((j:Int),(i:Int))=some (.inr (((j+a:Nat):Int),q)))
 | 0,_,_,_,_,_=>by omega
 | k+1,j,i,h,hj,hi=>by
  have e:zA F (fun (x31:Int) (x37:Int)=>zk F x31 x37) (l.length:Int) (pk l) bit (k+1) ((j:Int),(i:Int)) =
   yY F (fun (x31:Int) (x37:Int)=>zk F x31 x37) (l.length:Int) (pk l) bit (zA F (fun (x31:Int) (x37:Int)=>zk F x31 x37) (l.length:Int) (pk l) bit k) (j:Int) (i:Int):=rfl
  rw[e]
  unfold yY
  by_cases hlt:j<l.length
  ·rw[if_pos (by simp;omega),qpy hl (by omega) hlt,qCk hlt,qlQ]
   simp only[qCa]
   by_cases h1:l[j]=bit
   ·rw[if_pos h1,if_pos (by simpa using h1)]
    cases i with
    | zero =>
     right
     exact ⟨0,0,rfl,rfl⟩
    | succ i =>
     have:zk F ((i+1:Nat):Int) (j:Int)=some (.inl (i:Int)):=by
      unfold zk
      rw[if_neg (by simp;omega),qev (by omega) (by omega),qD6]
     rw[this]
     simp only[qCa,Sum.elim_inl,yc]
     rw[qp (by omega)]
     rcases qoF (F:=F) hl hm bit k (j+1) i (by omega) (by omega) (by omega) with ⟨s,h2,h3⟩ | ⟨a,q,h2,h3⟩
     ·left;exact ⟨s,by rw[h2];rfl,h3⟩
     ·right;exact ⟨a+1,q,by rw[h2];rfl,by rw[h3,show j+1+a=j+(a+1) from by omega]⟩
   ·rw[if_neg h1,if_neg (by simpa using h1)]
    simp only[yc]
    rw[qp (by omega)]
    rcases qoF (F:=F) hl hm bit k (j+1) i (by omega) (by omega) hi with ⟨s,h2,h3⟩ | ⟨a,q,h2,h3⟩
    ·left;exact ⟨s,by rw[h2];rfl,h3⟩
    ·right;exact ⟨a+1,q,by rw[h2];rfl,by rw[h3,show j+1+a=j+(a+1) from by omega]⟩
  ·rw[if_neg (by simp;omega),qCp (by omega)]
   left;exact ⟨_,rfl,rfl⟩
theorem qlP (hF:20000≤F)(hl:Bit l)(hm:l.length≤10000){bit:Int}{i:Nat}(hi:i<9223372036854775808) :
  qaZ F (l.length:Int) (pk l) bit (i:Int)=some (match plc bit l i with | none=>-1 | some a=>(a:Int)):=by
 unfold qaZ
 simp only[qeq,qCa,qcM]
 rcases qoF (F:=F) hl hm bit F 0 i (by omega) (by omega) hi with ⟨s,h2,h3⟩ | ⟨a,q,h2,h3⟩
 ·rw[qCJ] at h2
  rw[show ((0:Nat):Int)=0 from rfl] at h3
  rw[h3,h2];rfl
 ·rw[qCJ] at h2
  rw[show ((0:Nat):Int)=0 from rfl] at h3
  rw[h3,h2,qC0];rfl
theorem qpA:Bit []:=by intro x hx;grind
theorem qrD {n m:Nat}(hm:m≤62)(h:n*2^m<9223372036854775808):ishl .i64 (n:Int) (m:Int)=((n*2^m:Nat):Int):=by
 unfold ishl
 have h1:min ((m:Int).toNat) (IntKind.bits .i64)=m:=by grind [IntKind.bits]
 grind [yD]
theorem qrF {n m:Nat}(hm:m≤62):ishr .i64 (n:Int) (m:Int)=((n/2^m:Nat):Int):=by
 grind [qh9,IntKind.bits]
theorem qAM {n m:Nat}(hm:m≤62)(hn:n<9223372036854775808):iand .i64 (n:Int) ((2^m-1:Nat):Int)=((n%2^m:Nat):Int):=by
 unfold iand
 have h1:(qCX (IntKind.bits .i64) (n:Int))=qCL 64 n:=by rfl
 have h2:(qCX (IntKind.bits .i64) ((2^m-1:Nat):Int))=qCL 64 (2^m-1):=by rfl
 have h3:2^m≤2^62:=qC1 (by decide) hm
 rw[show (2:Nat)^62=4611686018427387904 from by decide] at h3
 rw[h1,h2]
 have h4:(qCL 64 n &&& qCL 64 (2^m-1)).toNat=n%2^m:=by
  grind [Nat.and_two_pow_sub_one_eq_mod]
 show IntKind.wrap .i64 ((qCL 64 n &&& qCL 64 (2^m-1)).toNat:Int)=_
 rw[h4]
 have:=Nat.mod_le n (2^m)
 grind [yD]
theorem qop {a b:Nat}(h:a*b<9223372036854775808):imul .i64 (a:Int) (b:Int)=((a*b:Nat):Int):=by
 grind [imul,yD]
def wd (n t:Nat):Nat:=if n=0 then 0 else len ((t+1)/n)-1
theorem qzI {n t w:Nat}(hn:n≠0):n*2^(w+1)≤t+1↔w<wd n t:=by
 unfold wd
 rw[if_neg hn]
 have h1:=qgF (x:=(t+1)/n) (k:=w+1)
 have h2:=Nat.le_div_iff_mul_le (x:=2^(w+1)) (y:=t+1) (k:=n) (by omega)
 grind
theorem qqV {n t:Nat}(ht:t≤1048576):wd n t≤20:=by
 unfold wd
 split
 ·omega
 ·have h1:(t+1)/n≤t+1:=qDV _ _
  have h2:len ((t+1)/n)≤21:=qgF.2 (by omega)
  omega
theorem qt2 {F n t:Nat}(hn:n≤300)(ht:t≤1048576):∀ (k w:Nat),wd n t<k+w→w≤wd n t →
  qco F (n:Int) (t:Int) k (w:Int)=some ((wd n t:Nat):Int)
 | 0,_,_,_=>by omega
 | k+1,w,h,hw=>by
  show qdY F (n:Int) (t:Int) (qco F (n:Int) (t:Int) k) (w:Int)=_
  unfold qdY
  have h20:=qqV (n:=n) ht
  by_cases h0:n=0
  ·subst h0
   have:wd 0 t=0:=rfl
   rw[if_neg (by simp)]
   unfold qas
   rw[if_neg (by simp)]
   obtain rfl:w=0:=by omega
   rfl
  ·have hp:2^(w+1)≤2^21:=qC1 (by decide) (by omega)
   have hm:n*2^(w+1)≤300*2^21:=qEl hn hp
   rw[show (300:Nat)*2^21=629145600 from by decide] at hm
   have hc:decide ((0:Int)≤((w+1:Nat):Int))=true:=decide_eq_true (by omega)
   rw[if_pos (by grind),qp (by omega),hc]
   simp only[chk,if_true]
   rw[qrD (by omega) (by omega),qp (by omega)]
   unfold qas
   have hs:=qzI (n:=n) (t:=t) (w:=w) h0
   by_cases hlt:w<wd n t
   ·rw[if_pos (by grind),qp (by omega)]
    exact qt2 hn ht k (w+1) (by omega) (by omega)
   ·rw[if_neg (by grind)]
    obtain rfl:w=wd n t:=by omega
    rfl
theorem qqX {n t:Nat}(hF:20000≤F)(hn:n≤300)(ht:t≤1048576):qdj F (n:Int) (t:Int)=some ((wd n t:Nat):Int):=by
 unfold qdj
 have:=qqV (n:=n) ht
 exact qt2 hn ht F 0 (by omega) (by omega)
def fk (t:Int):Int→qFa→Int
 | _,[]=>0
 | last,n::l=>if 0≤n∧n≤t then (if n<last then 4 else fk t n l) else 3
def fkc (l:qFa)(t:Int):Int:=if 0≤t∧t≤1048576 then (if 300<l.length then 2 else fk t 0 l) else 3
theorem qpR {F:Nat}{t:Int}{l:qFa}(hm:l.length≤300):∀ (k i:Nat) (last:Int),l.length<k+i→i≤l.length →
  qeS F l t k (last,(i:Int))=some (fk t last (l.drop i))
 | 0,_,_,_,_=>by omega
 | k+1,i,last,h,hi=>by
  show qeR F l t (qeS F l t k) last (i:Int)=_
  unfold qeR
  by_cases hlt:i<l.length
  ·rw[if_pos (by simp_all),qk,qCb hlt,qCk hlt,fk]
   simp only[qCa]
   by_cases h1:0≤l[i]∧l[i]≤t
   ·rw[if_pos h1,if_neg (by simp_all)]
    by_cases h2:l[i]<last
    ·simp_all
    ·rw[if_neg h2,if_neg (by grind),qp (by omega)]
     exact qpR hm k (i+1) _ (by omega) (by omega)
   grind
  ·rw[if_neg (by simp_all),qCp (by omega)]
   rfl
theorem qmZ (hF:20000≤F):qde F l t=some (fkc l t):=by
 unfold qde fkc
 by_cases h1:0≤t∧t≤1048576
 ·rw[if_pos h1,if_neg (by simp_all)]
  by_cases h:300<l.length
  ·grind
  ·rw[if_neg h,if_neg (by grind)]
   exact qpR (by omega) F 0 0 (by omega) (by omega)
 grind
def Up (t:Nat):Nat→List Nat→Prop
 | _,[]=>True
 | last,n::l=>last≤n∧n≤t∧Up t n l
def lc (l:List Nat):qFa:=l.map fun x:Nat=>(x:Int)
theorem qhR (l:List Nat):(lc l).length=l.length:=by simp[lc]
theorem qzU {t:Nat}:∀ {l:qFa} {last:Nat},fk (t:Int) (last:Int) l=0↔∃ ns,l=lc ns∧Up t last ns
 | [],last=>by
  constructor
  ·intro _;exact ⟨[],rfl,trivial⟩
  ·intro _;rfl
 | n::l,last=>by
  unfold fk
  by_cases h1:0≤n∧n≤(t:Int)
  ·rw[if_pos h1]
   obtain ⟨n,rfl⟩:=qCd h1.1
   by_cases h2:(n:Int)<(last:Int)
   ·rw[if_pos h2]
    constructor
    ·omega
    ·rintro ⟨ns,e,hu⟩
     cases ns with
     | nil=>simp[lc] at e
     | cons m ns=>simp[lc] at e;have:=hu.1;omega
   ·rw[if_neg h2,qzU]
    constructor
    ·rintro ⟨ns,rfl,hu⟩;exact ⟨n::ns,rfl,by omega,by omega,hu⟩
    ·rintro ⟨ns,e,hu⟩
     cases ns with
     | nil=>simp[lc] at e
     | cons m ns =>
      simp[lc] at e
      obtain ⟨e1,rfl⟩:=e
      obtain rfl:n=m:=by omega
      exact ⟨ns,rfl,hu.2.2⟩
  ·rw[if_neg h1]
   constructor
   ·omega
   ·rintro ⟨ns,e,hu⟩
    cases ns with
    | nil=>simp[lc] at e
    | cons m ns =>
     simp[lc] at e
     have:=hu.2.1
     omega
theorem qj8:fkc l t=0↔∃ (ns:List Nat) (k:Nat),t=k∧k≤1048576∧l=lc ns∧ns.length≤300∧Up k 0 ns:=by
 unfold fkc
 by_cases h1:0≤t∧t≤1048576
 ·rw[if_pos h1]
  obtain ⟨t,rfl⟩:=qCd h1.1
  by_cases h:300<l.length
  ·rw[if_pos h]
   constructor
   ·omega
   ·rintro ⟨ns,k,_,_,rfl,h3,_⟩;rw[qhR] at h;omega
  ·rw[if_neg h]
   have:=qzU (t:=t) (l:=l) (last:=0)
   rw[show ((0:Nat):Int)=0 from rfl] at this
   rw[this]
   constructor
   ·rintro ⟨ns,rfl,hu⟩;exact ⟨ns,t,rfl,by omega,rfl,by rw[qhR] at h;omega,hu⟩
   grind
 omega
theorem qxZ {t:Nat}:∀ {l:List Nat} {a:Nat},Up t a l→∀ x∈l,a≤x∧x≤t
 | [],_,_=>by simp
 | n::l,a,h=>by
  intro x hx
  rcases qCj.1 hx with rfl | hx
  ·exact ⟨h.1,h.2.1⟩
  ·have:=qxZ h.2.2 x hx;have:=h.1;omega
def lo' (w:Nat)(l:List Nat):qFa:=l.flatMap fun x=>nb x w
theorem qhS (w x:Nat)(l:List Nat):lo' w (x::l)=nb x w++lo' w l:=rfl
theorem qtc (w:Nat):∀ l:List Nat,(lo' w l).length=l.length*w
 | []=>by simp[lo']
 | x::l=>by rw[qhS,qCh,qdI,qtc w l,qCt,qDa,qE8,qD0]
theorem qjz (w:Nat):∀ l:List Nat,Bit (lo' w l)
 | []=>by intro x hx;simp[lo'] at hx
 | x::l=>by rw[qhS];exact vy (qlK _ _) (qjz w l)
def hp (w last:Nat):Nat→List Nat→qFa
 | a,[]=>qCc (last-a) 0
 | a,x::l=>qCc (x/2^w-a) 0++(1::hp w last (x/2^w) l)
theorem qkc (w last:Nat):∀ (a:Nat) (l:List Nat),Bit (hp w last a l)
 | a,[]=>qhe _
 | a,x::l=>by
  rw[hp]
  exact vy (qhe _) (by
   intro y hy
   rcases qCj.1 hy with rfl | hy
   ·omega
   ·exact qkc w last _ l y hy)
theorem qwb {w t:Nat}:∀ {a:Nat} {l:List Nat},Up t a l→(hp w (t/2^w+1) (a/2^w) l).length=l.length+(t/2^w+1-a/2^w)
 | a,[],_=>by simp[hp]
 | a,x::l,h=>by
  have h1:a/2^w≤x/2^w:=qDE h.1
  have h2:x/2^w≤t/2^w:=qDE h.2.1
  have:=qwb (w:=w) h.2.2
  grind [hp]
def loF (t:Nat)(l:List Nat):qFa:=lo' (wd l.length t) l
def hiF (t:Nat)(l:List Nat):qFa:=hp (wd l.length t) (t/2^wd l.length t+1) 0 l
theorem qhh (t:Nat)(l:List Nat):(loF t l).length=l.length*wd l.length t:=qtc _ _
theorem qjw {t:Nat}{l:List Nat}(h:Up t 0 l):(hiF t l).length=l.length+(t/2^wd l.length t+1):=by
 have:=qwb (w:=wd l.length t) h
 rw[Nat.zero_div,Nat.sub_zero] at this
 exact this
def Fits (t:Nat)(l:List Nat):Prop:=l.length*wd l.length t≤8192∧l.length+(t/2^wd l.length t+1)≤8192
instance fitsDec (t:Nat) (l:List Nat):Decidable (Fits t l):=inferInstanceAs (Decidable (_∧_))
theorem qw4 {F:Nat}(hF:20000≤F){to:Nat}(hto:to≤10000):∀ (k a:Nat) (l:qFa),to<k+a→a≤to→Bit l→l.length+(to-a)≤8192 →
  qby F (to:Int) k ((l.length:Int),pk l,(a:Int))=some (((l++qCc (to-a) 0).length:Int),pk (l++qCc (to-a) 0),(to:Int))
 | 0,_,_,_,_,_,_=>by omega
 | k+1,a,l,h,ha,hl,hm=>by
  show qbx F (to:Int) (qby F (to:Int) k) (l.length:Int) (pk l) (a:Int)=_
  unfold qbx
  by_cases hlt:a<to
  ·have hadd:=qiR (F:=F) (n:=0) (w:=1) (l:=l) (by decide) (by omega) hl (by omega) (by decide)
   rw[show ((0:Nat):Int)=0 from rfl,show ((1:Nat):Int)=1 from rfl,show nb 0 1=[0] from rfl] at hadd
   rw[if_pos (by simp_all),hadd]
   simp only[qCa]
   rw[qp (by omega),qw4 hF hto k (a+1) (l++[0]) (by omega) (by omega) (vy hl (qhe 1)) (by grind)]
   have e:l++[0]++qCc (to-(a+1)) 0=l++qCc (to-a) 0:=by
    rw[qCi,show to-a=(to-(a+1))+1 from by omega,qDe];rfl
   rw[e]
  ·rw[if_neg (by simp_all),show to-a=0 from by omega]
   grind
theorem qtB (hF:20000≤F){to a:Nat}(ha:a≤to)(hto:to≤10000)(hl:Bit l)(hm:l.length+(to-a)≤8192) :
  vS F (l.length:Int) (pk l) (a:Int) (to:Int)=some (((l++qCc (to-a) 0).length:Int),pk (l++qCc (to-a) 0),(to:Int)):=by
 grind [vS,qw4]
def T8 (t:Nat)(l:List Nat)(e:Bool):Int×Int×Int×Int×qFa×Int×qFa×Bool :=
 ((l.length:Int),(t:Int),(wd l.length t:Int),((loF t l).length:Int),pk (loF t l),((hiF t l).length:Int),pk (hiF t l),e)
theorem qz8 {F w t:Nat}(hF:20000≤F)(hw:w≤20)(ht:t≤1048576){l:List Nat}(hlm:l.length≤300)(f1:l.length*w≤8192)(f2:l.length+(t/2^w+1)≤8192):∀ (k i:Nat) (q:Nat) (L H:qFa),l.length<k+i→i≤l.length→Up t q (l.drop i)→Bit L→Bit H→L.length+(l.length-i)*w≤8192→H.length+(l.length-i)+(t/2^w+1-q/2^w)≤8192→q≤t →
  qgq F (lc l) (t:Int) (w:Int) k ((i:Int),(H.length:Int),pk H,((q/2^w:Nat):Int),(L.length:Int),pk L) =
   some ((l.length:Int),(t:Int),(w:Int),((L++lo' w (l.drop i)).length:Int),pk (L++lo' w (l.drop i)),((H++hp w (t/2^w+1) (q/2^w) (l.drop i)).length:Int),pk (H++hp w (t/2^w+1) (q/2^w) (l.drop i)),true)
 | 0,_,_,_,_,_,_,_,_,_,_,_,_=>by omega
 | k+1,i,q,L,H,h,hi,hu,hL,hH,hLm,hHm,hq=>by
  show qgo F (lc l) (t:Int) (w:Int) (qgq F (lc l) (t:Int) (w:Int) k) (i:Int) (H.length:Int) (pk H) ((q/2^w:Nat):Int) (L.length:Int) (pk L)=_
  unfold qgo
  have hqt:q/2^w≤t/2^w:=qDE hq
  by_cases hlt:i<l.length
  ·rw[qCk hlt] at hu ⊢
   have hx1:=hu.1;have hx2:=hu.2.1;have hx3:=hu.2.2
   have hg:(lc l)[i]?=some ((l[i]:Nat):Int):=by simp[lc,hlt]
   have hc:decide ((0:Int)≤(w:Int))=true:=decide_eq_true (by omega)
   have hp20:2^w≤2^20:=qC1 (by decide) hw
   rw[show (2:Nat)^20=1048576 from by decide] at hp20
   have hp0:0<2^w:=qDO (by decide)
   have e1:ishl .i64 1 (w:Int)=((2^w:Nat):Int):=by
    have:=qrD (n:=1) (m:=w) (by omega) (by omega)
    simp_all
   have hd1:q/2^w≤l[i]/2^w:=qDE hx1
   have hd2:l[i]/2^w≤t/2^w:=qDE hx2
   have hsplit:(l.length-i)*w=w+(l.length-(i+1))*w:=by
    rw[show l.length-i=(l.length-(i+1))+1 from by omega,qDa,qE8,qD0]
   rw[qhR,if_pos (by simp_all),qk,hg]
   simp only[qCa]
   rw[hc]
   simp only[chk,if_true]
   have hmod:l[i]%2^w<18446744073709551616:=by omega
   rw[e1,qev (by omega) (by omega),qAM (by omega) (by omega),vL hmod,qiR hmod (by omega) hL (by omega) (by omega),qws (qCq _)]
   simp only[qCa]
   rw[qrF (by omega),qtB hF hd1 (by omega) hH (by omega)]
   simp only[qCa]
   have hadd:=qiR (F:=F) (n:=1) (w:=1) (l:=H++qCc (l[i]/2^w-q/2^w) 0) (by decide) (by omega) (vy hH (qhe _)) (by grind) (by decide)
   rw[show ((1:Nat):Int)=1 from rfl,show nb 1 1=[1] from rfl] at hadd
   rw[hadd]
   simp only[qCa]
   rw[qp (by omega)]
   rw[qz8 hF hw ht hlm f1 f2 k (i+1) l[i] (L++nb l[i] w) (H++qCc (l[i]/2^w-q/2^w) 0++[1]) (by omega) (by omega) hx3 (vy hL (qlK _ _)) (vy (vy hH (qhe _)) qsG) (by grind [qdI]) (by grind) hx2]
   grind [hp,qhS]
  ·rw[qhR,if_neg (by simp_all),qCp (by omega)]
   unfold qgp
   rw[qrF (by omega),qp (by omega),qtB hF (by omega) (by omega) hH (by omega)]
   simp[lo',hp,qhR]
theorem qsZ {t:Nat}(hF:20000≤F)(ht:t≤1048576){l:List Nat}(hlm:l.length≤300)(hu:Up t 0 l) :
  qfB F (lc l) (t:Int)=some (if Fits t l then T8 t l true else (0,0,0,0,[],0,[],false)):=by
 unfold qfB
 have hw:=qqV (n:=l.length) ht
 have hc:decide ((0:Int)≤((wd l.length t:Nat):Int))=true:=decide_eq_true (by omega)
 have hdt:t/2^wd l.length t≤t:=qDV _ _
 have hmul:l.length*wd l.length t≤300*20:=qEl hlm hw
 rw[qhR,qqX hF hlm ht]
 simp only[qCa]
 rw[hc]
 simp only[chk,if_true]
 rw[qop (by omega),qrF (by omega),qp (by omega),qcw (by omega)]
 by_cases hf:Fits t l
 ·rw[if_neg (by have h1:=hf.1;have h2:=hf.2;grind),if_pos hf]
  have:=qz8 (F:=F) hF hw ht hlm hf.1 hf.2 F 0 0 [] [] (by omega) (by omega) (by simp_all) qpA qpA (by grind) (by simp;exact hf.2) (by omega)
  rw[qCJ,qCA,qCA,Nat.zero_div] at this
  exact this
 ·rw[if_pos (by unfold Fits at hf;grind),if_neg hf]
def nl (l:qFa):List Nat:=l.map Int.toNat
theorem qth (l:List Nat):nl (lc l)=l:=by
 induction l with
 | nil=>rfl
 | cons x l ih=>grind [nl,lc]
abbrev F8:=Int×Int×Int×Int×qFa×Int×qFa×Int
def fz8 (e:Int):F8:=(0,0,0,0,[],0,[],e)
def fo8 (t:Nat)(l:List Nat):F8:=((l.length:Int),(t:Int),(wd l.length t:Int),((loF t l).length:Int),pk (loF t l),((hiF t l).length:Int),pk (hiF t l),0)
def fw (l:qFa)(t:Int):F8:=if fkc l t≠0 then fz8 (fkc l t) else if Fits t.toNat (nl l) then fo8 t.toNat (nl l) else fz8 8
theorem qv1 (h:fkc l t≠0):fw l t=fz8 (fkc l t):=by grind [fw]
theorem qog {l:List Nat}{t:Nat}(ht:t≤1048576)(hlm:l.length≤300)(hu:Up t 0 l):fkc (lc l) (t:Int)=0∧fw (lc l) (t:Int)=if Fits t l then fo8 t l else fz8 8:=by
 have h:fkc (lc l) (t:Int)=0:=qj8.2 ⟨l,t,rfl,ht,rfl,hlm,hu⟩
 grind [fw,qth]
theorem qut (hF:20000≤F):qdd F l t=some (fw l t):=by
 unfold qdd
 rw[qmZ hF]
 simp only[qCa]
 by_cases h:fkc l t=0
 ·obtain ⟨ns,k,rfl,hk,rfl,hm,hu⟩:=qj8.1 h
  rw[(qog hk hm hu).2,h,if_neg (by simp),qsZ hF hk hm hu]
  simp only[qCa]
  by_cases hf:Fits k ns
  ·rw[if_pos hf,if_pos hf];rfl
  ·rw[if_neg hf,if_neg hf];rfl
 ·rw[if_pos (by grind),qv1 h];rfl
theorem qtp (k:Nat)(r:qFa)(i:Nat):plc 1 (qCc k 0++r) i=(plc 1 r i).map (·+k):=by
 induction k with
 | zero=>simp
 | succ k ih =>
  rw[qDe,qDj,qlQ,if_neg (by decide),ih,Option.map_map]
  congr 1
theorem qwN {w last:Nat}:∀ {l:List Nat} {a i:Nat},(∀ x∈l,a≤x/2^w)→(∀ j x,l[j]?=some x→∀ y∈l.drop (j+1),x/2^w≤y/2^w) →
  plc 1 (hp w last a l) i=(l[i]?).map fun x=>x/2^w-a+i
 | [],a,i,_,_=>by
  have:=qtp (last-a) [] i
  rw[qCM] at this
  rw[hp,this];rfl
 | x::l,a,i,h,hs=>by
  have hx:=h x qCu
  rw[hp,qtp,qlQ,if_pos rfl]
  cases i with
  | zero=>simp
  | succ i =>
   simp only
   have h0:=hs 0 x rfl
   rw[qDI,qCJ] at h0
   rw[qwN (a:=x/2^w) h0 (fun j y hj=>by
    have:=hs (j+1) y (by grind)
    simp_all)]
   simp only[List.getElem?_cons_succ,Option.map_map]
   cases hl:l[i]? with
   | none=>rfl
   | some y =>
    have:=h0 y (qCe hl)
    grind
theorem qo9 {t w:Nat}:∀ {l:List Nat} {a:Nat},Up t a l→∀ j x,l[j]?=some x→∀ y∈l.drop (j+1),x/2^w≤y/2^w
 | [],_,_,j,x,h=>by simp
 | n::l,a,h,0,x,hx=>by
  simp at hx;subst hx
  intro y hy
  rw[qDI,qCJ] at hy
  exact qDE (qxZ h.2.2 y hy).1
 | n::l,a,h,j+1,x,hx=>by
  intro y hy
  rw[qDI] at hy
  exact qo9 h.2.2 j x (by grind) y hy
theorem qto {t:Nat}{l:List Nat}(h:Up t 0 l)(i:Nat):plc 1 (hiF t l) i=(l[i]?).map fun x=>x/2^wd l.length t+i:=by
 unfold hiF
 rw[qwN (fun x _=>qCH _) (qo9 h)]
 simp
theorem qrL {w:Nat}:∀ {l:List Nat} {i x:Nat},l[i]?=some x→((lo' w l).drop (i*w)).take w=nb x w
 | [],i,x,h=>by grind
 | y::l,0,x,h=>by
  simp_all [qhS,qdI]
 | y::l,i+1,x,h=>by
  rw[qhS,qDa,qE8,qD0,← List.drop_drop,List.drop_left' (qdI _ _)]
  exact qrL (by grind)
theorem qBK {a b m:Nat}(ha:a<2^m)(hb:b%2^m=0)(h:a+b<9223372036854775808):ior .i64 (b:Int) (a:Int)=((b+a:Nat):Int):=by
 unfold ior
 have h1:(qCX (IntKind.bits .i64) (b:Int))=qCL 64 b:=by rfl
 have h2:(qCX (IntKind.bits .i64) (a:Int))=qCL 64 a:=by rfl
 rw[h1,h2]
 have h3:b ||| a=b+a:=by
  have hy2:b=2^m*(b/2^m):=by grind [qEg]
  grind [Nat.two_pow_add_eq_or_of_lt]
 have h4:(qCL 64 b ||| qCL 64 a).toNat=b+a:=by
  grind
 show IntKind.wrap .i64 ((qCL 64 b ||| qCL 64 a).toNat:Int)=_
 grind [yD]
theorem qvU {t i x:Nat}(hF:20000≤F)(ht:t≤1048576){l:List Nat}(hlm:l.length≤300)(hu:Up t 0 l)(hf:Fits t l)(hx:l[i]?=some x) :
  qcn F (l.length:Int) (t:Int) (wd l.length t:Int) ((loF t l).length:Int) (pk (loF t l)) ((hiF t l).length:Int) (pk (hiF t l)) (i:Int)=some (x:Int):=by
 unfold qcn
 have hw:=qqV (n:=l.length) ht
 have hi:i<l.length:=(List.getElem?_eq_some_iff.1 hx).1
 have hL:(loF t l).length≤8192:=by rw[qhh];exact hf.1
 have hH:(hiF t l).length≤8192:=by rw[qjw hu];exact hf.2
 have hxt:=(qxZ hu x (qCe hx)).2
 have hmul:i*wd l.length t+wd l.length t≤(loF t l).length:=by
  rw[qhh,← Nat.succ_mul];exact qCO _ hi
 rw[qlP hF (l:=hiF t l) (qkc _ _ _ _) (by omega) (by omega),qto hu,hx]
 simp only[qC8,qCa]
 have hdx:x/2^wd l.length t≤x:=qDV _ _
 have hz:0≤x/2^wd l.length t:=qCH _
 rw[qop (by omega),qhn (l:=loF t l) (by omega) (qjz _ _) hL (by omega) (by omega),if_pos hmul]
 simp only[qCa]
 have hc:decide ((0:Int)≤((wd l.length t:Nat):Int))=true:=decide_eq_true (by omega)
 rw[hc]
 simp only[chk,if_true,lett]
 have hg:((loF t l).drop (i*wd l.length t)).take (wd l.length t)=nb x (wd l.length t):=qrL hx
 have hp20:2^wd l.length t≤2^20:=qC1 (by decide) hw
 rw[show (2:Nat)^20=1048576 from by decide] at hp20
 have hml:=Nat.mod_lt x (show 0<2^wd l.length t from qDO (by decide))
 have hdm:=qEg x (2^wd l.length t)
 have hdm2:x/2^wd l.length t*2^wd l.length t≤x:=Nat.div_mul_le_self _ _
 rw[hg,qlk,qrG (by omega) (by omega),qD6,qrD (by omega) (by omega),qeI (by omega),qBK (m:=wd l.length t) hml (Nat.mul_mod_left _ _) (by omega)]
 grind
theorem qkj {F:Nat}{l:qFa}(hl:Bit l)(hm:l.length≤10000)(bit:Int):∀ (k j c:Nat),l.length<k+j→j≤l.length→1≤c→c+(l.length-j)≤100000 →
  ∃ s,zA F (fun (x31:Int) (x37:Int)=>zk F x31 x37) (l.length:Int) (pk l) bit k ((j:Int),-(c:Int))=some (.inl s)
 | 0,_,_,_,_,_,_=>by omega
 | k+1,j,c,h,hj,hc,hcm=>by
  have e:zA F (fun (x31:Int) (x37:Int)=>zk F x31 x37) (l.length:Int) (pk l) bit (k+1) ((j:Int),-(c:Int)) =
   yY F (fun (x31:Int) (x37:Int)=>zk F x31 x37) (l.length:Int) (pk l) bit (zA F (fun (x31:Int) (x37:Int)=>zk F x31 x37) (l.length:Int) (pk l) bit k) (j:Int) (-(c:Int)):=rfl
  rw[e]
  unfold yY
  by_cases hlt:j<l.length
  ·rw[if_pos (by simp_all),qpy hl (by omega) hlt]
   simp only[qCa]
   have hr:zk F (-(c:Int)) (j:Int)=some (.inl (-((c+1:Nat):Int))):=by
    grind [zk,zN]
   by_cases h1:l[j]=bit
   ·rw[if_pos (by grind),hr]
    simp only[qCa,Sum.elim_inl,yc]
    rw[qp (by omega)]
    exact qkj hl hm bit k (j+1) (c+1) (by omega) (by omega) (by omega) (by omega)
   ·rw[if_neg (by grind)]
    simp only[yc]
    rw[qp (by omega)]
    exact qkj hl hm bit k (j+1) c (by omega) (by omega) hc (by omega)
  ·rw[if_neg (by simp_all)]
   simp
theorem qwM (hF:20000≤F)(hl:Bit l)(hm:l.length≤10000){bit:Int}:qaZ F (l.length:Int) (pk l) bit (-1)=some (-1):=by
 unfold qaZ
 simp only[qeq,qCa,qcM]
 obtain ⟨s,hs⟩:=qkj (F:=F) hl hm bit F 0 1 (by omega) (by omega) (by omega) (by omega)
 simp_all
theorem qvV {F:Nat}{xs ys:qFa}(he:xs.length=ys.length)(hm:xs.length≤9223372036854775807):∀ (k i:Nat),xs.length<k+i→i≤xs.length→kA F xs ys k (i:Int)=some (decide (xs.drop i=ys.drop i))
 | 0,_,_,_=>by omega
 | k+1,i,h,hi=>by
  show kz F xs ys (kA F xs ys k) (i:Int)=_
  unfold kz
  by_cases hlt:i<xs.length
  ·have hlt':i<ys.length:=by omega
   rw[if_pos (by simp_all),qk,qCb hlt,qk,qCb hlt']
   simp only[qCa]
   rw[qCk hlt,qCk hlt']
   by_cases hc:xs[i]=ys[i]
   ·rw[if_neg (by grind),qp (by omega),qvV he hm k (i+1) (by omega) (by omega)]
    congr 1
    grind
   grind [List.cons.inj]
  ·rw[if_neg (by simp_all),qCp (by omega),qCp (by omega)]
   rfl
theorem feqb {xs ys:qFa}(hF:xs.length<F)(hm:xs.length≤9223372036854775807):zb F xs ys=some (decide (xs=ys)):=by
 unfold zb
 by_cases h:xs.length=ys.length
 ·rw[if_neg (by grind)]
  have:=qvV (F:=F) h hm F 0 (by omega) (qCH _)
  simp_all
 ·rw[if_pos (by grind),decide_eq_false (fun e=>h (by rw[e]))]
theorem qpX {n m:Int}{xs ys:qFa}(hF:xs.length<F)(hm:xs.length≤9223372036854775807):qeD F n xs m ys=some (decide (n=m∧xs=ys)):=by
 grind [qeD,feqb,qdi]
def FWr (t:Nat)(ns:List Nat)(lw:Int)(lb:qFa)(hw:Int)(hb:qFa):Prop :=
 ns.length≤300∧Up t 0 ns∧Fits t ns∧lw=((loF t ns).length:Int)∧lb=pk (loF t ns)∧hw=((hiF t ns).length:Int)∧hb=pk (hiF t ns)
theorem qBN {t:Nat}(hF:20000≤F)(ht:t≤1048576){out:qFa} :
  (∃ ns,out=lc ns∧FWr t ns lw lb hw hb∧vr F (t:Int) lw lb hw hb out=some (out,0)) ∨
  ((¬ ∃ ns,out=lc ns∧FWr t ns lw lb hw hb)∧vr F (t:Int) lw lb hw hb out=some ([],1)):=by
 unfold vr
 rw[qmZ hF]
 simp only[qCa]
 by_cases h:fkc out (t:Int)=0
 ·obtain ⟨ns,k,e,hk,rfl,hm,hu⟩:=qj8.1 h
  obtain rfl:t=k:=by omega
  rw[h,if_neg (by simp),qsZ hF hk hm hu]
  simp only[qCa]
  have huniq:∀ ns',lc ns=lc ns'→ns=ns':=fun ns' e=>by have:=congrArg nl e;grind [qth]
  by_cases hf:Fits t ns
  ·have hL:(loF t ns).length≤8192:=by rw[qhh];exact hf.1
   have hH:(hiF t ns).length≤8192:=by rw[qjw hu];exact hf.2
   have hpL:=qqj hL
   have hpH:=qqj hH
   rw[if_pos hf]
   simp only[T8,qC9,qCr,if_false]
   rw[qpX (by omega) (by omega)]
   simp only[qCa]
   by_cases h1:((loF t ns).length:Int)=lw∧pk (loF t ns)=lb
   ·rw[decide_eq_true h1]
    simp only[qC9,qbF,qCr,if_false]
    rw[qpX (by omega) (by omega)]
    simp only[qCa]
    by_cases h2:((hiF t ns).length:Int)=hw∧pk (hiF t ns)=hb
    ·rw[decide_eq_true h2]
     left
     exact ⟨ns,rfl,⟨hm,hu,hf,h1.1.symm,h1.2.symm,h2.1.symm,h2.2.symm⟩,rfl⟩
    ·rw[decide_eq_false h2]
     right
     refine ⟨?_,rfl⟩
     rintro ⟨ns',e1,w⟩
     rw[← huniq ns' e1] at w
     exact h2 ⟨w.2.2.2.2.2.1.symm,w.2.2.2.2.2.2.symm⟩
   ·rw[decide_eq_false h1]
    right
    refine ⟨?_,rfl⟩
    rintro ⟨ns',e1,w⟩
    rw[← huniq ns' e1] at w
    exact h1 ⟨w.2.2.2.1.symm,w.2.2.2.2.1.symm⟩
  ·rw[if_neg hf]
   right
   refine ⟨?_,rfl⟩
   rintro ⟨ns',e1,w⟩
   rw[← huniq ns' e1] at w
   exact hf w.2.2.1
 ·rw[if_pos (by grind)]
  right
  refine ⟨?_,rfl⟩
  rintro ⟨ns,rfl,w⟩
  exact h (qj8.2 ⟨ns,t,rfl,ht,rfl,w.1,w.2.1⟩)
def Good (l:List Nat)(n t w lw:Int)(lb:qFa)(hw:Int)(hb:qFa):Prop :=
 ∃ k:Nat,t=k∧k≤1048576∧n=(l.length:Int)∧w=((wd l.length k:Nat):Int)∧FWr k l lw lb hw hb
def Rg (n t:Int):Prop:=0≤n∧n≤300∧0≤t∧t≤1048576
instance rgDec (n t:Int):Decidable (Rg n t):=inferInstanceAs (Decidable (_∧_))
theorem qyD {l:List Nat}{n:Int}(h:Good l n t w lw lb hw hb):Rg n t:=by
 obtain ⟨k,rfl,hk,rfl,_,h1,_⟩:=h
 exact ⟨by omega,by omega,by omega,by omega⟩
theorem qwx {F t n w:Nat}{lw hw:Int}{lb hb:qFa}(f:Nat→Int)(hn:n≤300)(hat:∀ i,i<n→qcn F (n:Int) (t:Int) (w:Int) lw lb hw hb (i:Int)=some (f i)):∀ (k i:Nat),n<k+i→i≤n →
  qdh F (n:Int) (t:Int) (w:Int) lw lb hw hb k ((qCz i).map f,(i:Int))=vr F (t:Int) lw lb hw hb ((qCz n).map f)
 | 0,_,_,_=>by omega
 | k+1,i,h,hi=>by
  show qdf F (n:Int) (t:Int) (w:Int) lw lb hw hb (qdh F (n:Int) (t:Int) (w:Int) lw lb hw hb k) ((qCz i).map f) (i:Int)=_
  unfold qdf
  by_cases hlt:i<n
  ·rw[if_pos (by simp_all),hat i hlt]
   simp only[qCa]
   rw[kY (by grind),qp (by omega)]
   simp only[qCa]
   have e:(qCz i).map f++[f i]=(qCz (i+1)).map f:=by grind [qEy]
   rw[e]
   exact qwx f hn hat k (i+1) (by omega) (by omega)
  grind
theorem qmI (hF:20000≤F){n:Int}(ul:U8s lb)(uh:U8s hb)(il:I64 lw)(ih:I64 hw)(ll:lb.length≤9223372036854775807)(lh:hb.length≤9223372036854775807) :
  (∃ l,Good l n t w lw lb hw hb∧qar F n t w lw lb hw hb=some (lc l,0)) ∨
  ((¬ ∃ l,Good l n t w lw lb hw hb)∧qar F n t w lw lb hw hb=some ([],if Rg n t then 1 else 3)):=by
 unfold qar
 by_cases hr:Rg n t
 ·obtain ⟨n,rfl⟩:=qCd hr.1
  obtain ⟨t,rfl⟩:=qCd hr.2.2.1
  have hn:n≤300:=by have:=hr.2.1;omega
  have ht:t≤1048576:=by have:=hr.2.2.2;omega
  have hw20:=qqV (n:=n) ht
  rw[if_neg (by grind),if_pos hr,qqX hF hn ht]
  simp only[qCa]
  by_cases hw1:w=((wd n t:Nat):Int)
  ·subst hw1
   rw[if_neg (by simp),qlm ul il.1 il.2 ll]
   simp only[qCa]
   rcases qln ul (n:=lw) with h1 | ⟨L,hL,hLm,rfl,rfl⟩
   ·right
    refine ⟨?_,by rw[if_pos (by grind)];rfl⟩
    rintro ⟨l,k,e,hk,e2,_,g1,g2,g3,rfl,rfl,_⟩
    exact h1 (qlo (by rw[qhh];exact g3.1))
   rw[qlo hLm,if_neg (by simp),qlm uh ih.1 ih.2 lh]
   simp only[qCa]
   rcases qln uh (n:=hw) with h1 | ⟨H,hH,hHm,rfl,rfl⟩
   ·right
    refine ⟨?_,by rw[if_pos (by grind)];rfl⟩
    rintro ⟨l,k,e,hk,e2,_,g1,g2,g3,_,_,rfl,rfl⟩
    exact h1 (qlo (by rw[qjw g2];exact g3.2))
   have hmul:n*wd n t≤300*20:=qEl hn hw20
   rw[qlo hHm,if_neg (by simp),qop (by omega)]
   by_cases hl1:L.length=n*wd n t
   ·rw[if_neg (by simp_all)]
    have hfin:(n=0∨∃ q,plc 1 H (n-1)=some q) →
      (∃ l,Good l (n:Int) (t:Int) ((wd n t:Nat):Int) (L.length:Int) (pk L) (H.length:Int) (pk H)∧zY F (n:Int) (t:Int) ((wd n t:Nat):Int) (L.length:Int) (pk L) (H.length:Int) (pk H) false=some (lc l,0)) ∨
      ((¬ ∃ l,Good l (n:Int) (t:Int) ((wd n t:Nat):Int) (L.length:Int) (pk L) (H.length:Int) (pk H))∧zY F (n:Int) (t:Int) ((wd n t:Nat):Int) (L.length:Int) (pk L) (H.length:Int) (pk H) false=some ([],1)):=by
     intro hpl
     unfold zY
     rw[if_neg (by simp)]
     have hat:∃ f:Nat→Int,∀ i,i<n→qcn F (n:Int) (t:Int) ((wd n t:Nat):Int) (L.length:Int) (pk L) (H.length:Int) (pk H) (i:Int)=some (f i):=by
      have h1:∀ i,∃ v:Int,i<n→qcn F (n:Int) (t:Int) ((wd n t:Nat):Int) (L.length:Int) (pk L) (H.length:Int) (pk H) (i:Int)=some v:=by
       intro i
       by_cases hi:i<n
       ·unfold qcn
        have hm2:i*wd n t+wd n t≤L.length:=by rw[hl1,← Nat.succ_mul];exact qCO _ hi
        have hc:decide ((0:Int)≤((wd n t:Nat):Int))=true:=decide_eq_true (by omega)
        rw[qlP hF hH (by omega) (by omega)]
        simp only[qCa]
        rw[qop (by omega),qhn (by omega) hL hLm (by omega) (by omega)]
        simp only[qCa]
        rw[hc]
        simp only[chk,if_true,lett]
        simp_all
       ·exact ⟨0,fun h=>absurd h hi⟩
      exact ⟨fun i=>Classical.choose (h1 i),fun i hi=>Classical.choose_spec (h1 i) hi⟩
     obtain ⟨f,hat⟩:=hat
     have hl9:=qwx (F:=F) (t:=t) (n:=n) (w:=wd n t) f hn hat F 0 (by omega) (by omega)
     rw[show (qCz 0).map f=[] from rfl,show ((0:Nat):Int)=0 from rfl] at hl9
     rw[hl9]
     rcases qBN (F:=F) (t:=t) hF ht (lw:=(L.length:Int)) (lb:=pk L) (hw:=(H.length:Int)) (hb:=pk H) (out:=(qCz n).map f) with ⟨ns,e,w,hM⟩ | ⟨hno,hM⟩
     ·have hnl:ns.length=n:=by have:=congrArg List.length e;grind [qhR]
      left
      exact ⟨ns,⟨t,rfl,ht,by omega,by grind,w⟩,by grind⟩
     ·right
      refine ⟨?_,hM⟩
      rintro ⟨l,k,e1,hk,e2,e3,w⟩
      obtain rfl:t=k:=by omega
      have hnl:n=l.length:=by omega
      apply hno
      refine ⟨l,?_,w⟩
      obtain ⟨w1,w2,w3,w4,w5,w6,w7⟩:=w
      apply List.ext_getElem?
      grind [qvU,lc]
    have hnoform:n≠0→plc 1 H (n-1)=none→¬ ∃ l,Good l (n:Int) (t:Int) ((wd n t:Nat):Int) (L.length:Int) (pk L) (H.length:Int) (pk H):=by
     rintro h0 hp ⟨l,k,e1,hk,e2,e3,w1,w2,w3,w4,w5,w6,w7⟩
     obtain rfl:t=k:=by omega
     grind [hiF,qrT,qkc,qto]
    by_cases h0:n=0
    ·subst h0
     have:isub .i64 ((0:Nat):Int) 1=-1:=by decide
     rw[this,qwM hF hH (by omega)]
     simp_all
    ·rw[qev (by omega) (by omega),qlP hF hH (by omega) (by omega)]
     simp only[qCa]
     cases hp:plc 1 H (n-1) with
     | none =>
      right
      refine ⟨hnoform h0 hp,?_⟩
      simp only
      rw[if_pos (by simp),decide_eq_true (show (0:Int)<(n:Int) by omega)]
      rfl
     | some q =>
      grind
   ·right
    refine ⟨?_,by rw[if_pos (by grind)];rfl⟩
    rintro ⟨l,k,e1,hk,e2,e3,w1,w2,w3,w4,_⟩
    obtain rfl:t=k:=by omega
    grind [qhh]
  ·right
   refine ⟨?_,by rw[if_pos (by simp_all)];rfl⟩
   rintro ⟨l,k,e1,hk,e2,e3,_⟩
   grind
 ·right
  refine ⟨fun ⟨l,h⟩=>hr (qyD h),?_⟩
  rw[if_pos (by unfold Rg at hr;grind),if_neg hr]
theorem qAP {l:List Nat}{i:Nat}(hi:i<l.length):(lc l)[i]?=some ((l[i]:Nat):Int):=by simp[lc,hi]
def rdn (w:Nat)(L:qFa):qFa→Nat→Nat→Nat→List Nat
 | [],_,_,_=>[]
 | _::_,_,0,_=>[]
 | b::H,h,m+1,k=>if b=0 then rdn w L H (h+1) (m+1) k else (h*2^w+bv ((L.drop (k*w)).take w))::rdn w L H h m (k+1)
theorem qBT {w:Nat}{X:qFa}{h k:Nat}:rdn w L X h 0 k=[]:=by cases X <;> rfl
theorem qty {w:Nat}{L X:qFa}{m k:Nat}:∀ {c h:Nat},rdn w L (qCc c 0++X) h (m+1) k=rdn w L X (h+c) (m+1) k
 | 0,h=>by simp
 | c+1,h=>by
  rw[qDe,qDj,rdn,if_pos rfl,qty,show h+1+c=h+(c+1) from by omega]
theorem qwY {w last:Nat}{L:qFa}:∀ {l:List Nat} {a k:Nat},(∀ x∈l,a≤x/2^w)→(∀ j x,l[j]?=some x→∀ y∈l.drop (j+1),x/2^w≤y/2^w) →
  (∀ i x,l[i]?=some x→(L.drop ((k+i)*w)).take w=nb x w)→rdn w L (hp w last a l) a l.length k=l
 | [],a,k,_,_,_=>qBT
 | x::l,a,k,h,hs,hL=>by
  have hx:=h x qCu
  have h0:=hs 0 x rfl
  rw[qDI,qCJ] at h0
  have h1:=hL 0 x rfl
  rw[Nat.add_zero] at h1
  have ih:=qwY (w:=w) (last:=last) (L:=L) (l:=l) (a:=x/2^w) (k:=k+1) h0 (fun j y hj=>by
    have:=hs (j+1) y (by simpa using hj)
    rwa [qDI] at this) (fun i y hy=>by
    have:=hL (i+1) y (by simpa using hy)
    rwa [show k+1+i=k+(i+1) from by omega])
  have hdm:=qEg x (2^w)
  rw[hp,qCt,qty,rdn,if_neg (by decide),h1,qlk,show a+(x/2^w-a)=x/2^w from by omega,Nat.mul_comm,hdm,ih]
theorem qv2:(∃ (ns:List Nat) (k:Nat),l=lc ns∧t=k∧k≤1048576∧ns.length≤300∧Up k 0 ns∧Fits k ns∧fw l t=fo8 k ns)∨(∃ e:Int,e≠0∧fw l t=fz8 e∧¬ ∃ (ns:List Nat) (k:Nat),l=lc ns∧t=k∧k≤1048576∧ns.length≤300∧Up k 0 ns∧Fits k ns):=by
 by_cases h:fkc l t=0
 ·obtain ⟨ns,k,rfl,hk,rfl,hm,hu⟩:=qj8.1 h
  have hf2:=(qog hk hm hu).2
  by_cases hf:Fits k ns
  ·left;exact ⟨ns,k,rfl,rfl,hk,hm,hu,hf,by rw[hf2,if_pos hf]⟩
  ·right
   refine ⟨8,by decide,by rw[hf2,if_neg hf],?_⟩
   rintro ⟨ns',k',e1,e2,_,_,_,f⟩
   obtain rfl:k=k':=by omega
   have:=congrArg nl e1
   rw[qth,qth] at this
   rw[← this] at f
   exact hf f
 ·right
  refine ⟨fkc l t,h,qv1 h,?_⟩
  rintro ⟨ns',k',e1,e2,h1,h2,h3,f⟩
  exact h (qj8.2 ⟨ns',k',e2,h1,e1,h2,h3⟩)
theorem qp1 {l:List Nat}{t:Nat}(hu:Up t 0 l):rdn (wd l.length t) (loF t l) (hiF t l) 0 l.length 0=l:=by
 unfold hiF
 refine qwY (fun x _=>qCH _) (qo9 hu) (fun i x hx=>?_)
 rw[qC0]
 exact qrL hx
theorem quv {l l':List Nat}{n:Int}(g:Good l n t w lw lb hw hb)(g':Good l' n t w lw lb hw hb):l=l':=by
 obtain ⟨k,rfl,hk,a1,a2,a3,a4,a5,a6,a7,a8,a9⟩:=g
 obtain ⟨k',e,hk',b1,b2,b3,b4,b5,b6,b7,b8,b9⟩:=g'
 obtain rfl:k=k':=by omega
 have hlen:l.length=l'.length:=by omega
 have e1:loF k l=loF k l':=qrT (qjz _ _) (qjz _ _) (by omega) (by rw[← a7,← b7])
 have e2:hiF k l=hiF k l':=qrT (qkc _ _ _ _) (qkc _ _ _ _) (by omega) (by rw[← a9,← b9])
 rw[← qp1 a4,← qp1 b4,e1,e2,hlen]
def gf (l:List Nat)(i:Int):Int×Int:=match (if 0≤i then l[i.toNat]? else none) with | none=>(0,3) | some x=>((x:Int),0)
structure Bd (lw:Int) (lb:qFa) (hw:Int) (hb:qFa):Prop where
 ul:U8s lb
 uh:U8s hb
 il:I64 lw
 ih:I64 hw
 ll:lb.length≤9223372036854775807
 lh:hb.length≤9223372036854775807
theorem qww {n:Int}{l:List Nat}(hF:20000≤F)(b:Bd lw lb hw hb)(g:Good l n t w lw lb hw hb):qar F n t w lw lb hw hb=some (lc l,0):=by
 rcases qmI (F:=F) (n:=n) (t:=t) (w:=w) hF b.ul b.uh b.il b.ih b.ll b.lh with ⟨k,g',h⟩ | ⟨h,_⟩
 ·rw[h,quv g' g]
 ·exact absurd ⟨l,g⟩ h
theorem qvw {n:Int}{l:List Nat}(hF:20000≤F)(b:Bd lw lb hw hb)(g:Good l n t w lw lb hw hb):qe8 F n t w lw lb hw hb=some 0:=by
 unfold qe8;rw[qww hF b g];rfl
theorem qv4 {n:Int}{l:List Nat}(hF:20000≤F)(b:Bd lw lb hw hb)(g:Good l n t w lw lb hw hb):qfA F n t w lw lb hw hb i=some (gf l i):=by
 unfold qfA
 rw[qvw hF b g]
 simp only[qCa]
 rw[if_pos (by rfl)]
 obtain ⟨k,rfl,hk,rfl,rfl,w1,w2,w3,rfl,rfl,rfl,rfl⟩:=g
 unfold gf qek
 by_cases hi:0≤i∧i<(l.length:Int)
 ·obtain ⟨i,rfl⟩:=qCd hi.1
  have hx:l[i]?=some l[i]:=qCb (by omega)
  rw[if_neg (by simp;omega),if_pos hi.1,qCf,hx]
  unfold qej
  rw[if_neg (by simp),qvU hF hk w1 w2 w3 hx]
  rfl
 ·rw[if_pos (by simp;omega)]
  have:(if 0≤i then l[i.toNat]? else none)=none:=by
   by_cases h0:0≤i
   ·rw[if_pos h0,qCP (by omega)]
   ·rw[if_neg h0]
  rw[this];rfl
theorem qyC {l:List Nat}{k:Nat}(hk:k≤1048576)(hm:l.length≤300)(hu:Up k 0 l)(hf:Fits k l):Good l (l.length:Int) (k:Int) ((wd l.length k:Nat):Int) ((loF k l).length:Int) (pk (loF k l)) ((hiF k l).length:Int) (pk (hiF k l)) :=
 ⟨k,rfl,hk,rfl,rfl,hm,hu,hf,rfl,rfl,rfl,rfl⟩
theorem qBD {l:List Nat}{k:Nat}(hu:Up k 0 l)(hf:Fits k l):Bd ((loF k l).length:Int) (pk (loF k l)) ((hiF k l).length:Int) (pk (hiF k l)):=by
 have hL:(loF k l).length≤8192:=by rw[qhh];exact hf.1
 have hH:(hiF k l).length≤8192:=by rw[qjw hu];exact hf.2
 exact ⟨qhY (qjz _ _),qhY (qkc _ _ _ _),⟨by omega,by omega⟩,⟨by omega,by omega⟩,qtn hL,qtn hH⟩
theorem qvs (hF:2000000≤F){g:List (qFa)}{least m:Int}(hp:pkE g B least k=0) :
  qbt F g N B least k m b=some (if (fw (pkA g B least k.toNat g.length).2.2 m).2.2.2.2.2.2.2≠0 then (0,0,0,0,0,[],0,0,0,0,[],0,[],(fw (pkA g B least k.toNat g.length).2.2 m).2.2.2.2.2.2.2) else
   (N,B,least,k,m,b,(fw (pkA g B least k.toNat g.length).2.2 m).1,(fw (pkA g B least k.toNat g.length).2.2 m).2.1,(fw (pkA g B least k.toNat g.length).2.2 m).2.2.1,(fw (pkA g B least k.toNat g.length).2.2 m).2.2.2.1,(fw (pkA g B least k.toNat g.length).2.2 m).2.2.2.2.1,(fw (pkA g B least k.toNat g.length).2.2 m).2.2.2.2.2.1,(fw (pkA g B least k.toNat g.length).2.2 m).2.2.2.2.2.2.1,0)):=by
 unfold qbt
 rw[qwQ hF]
 simp only[qCa]
 have ht:ptl g B least k=((pkA g B least k.toNat g.length).2.1,(pkA g B least k.toNat g.length).2.2,0):=by unfold ptl;rw[if_neg (fun h=>h hp)]
 rw[ht]
 simp only
 rw[if_neg (by decide),qut (by omega)]
 simp only[qCa]
 by_cases h:(fw (pkA g B least k.toNat g.length).2.2 m).2.2.2.2.2.2.2=0
 ·rw[if_neg (by simp[h]),if_neg (fun hh=>hh h)]
 ·rw[if_pos (by simpa using h),if_pos h]
theorem ql8 {g:List (qFa)}{B least:Int}{k:Nat}:∀ n:Nat,(pkA g B least k n).2.2=(qCz n).map fun i=>((pkA g B least k i).1.length:Int)
 | 0=>rfl
 | n+1=>by
  rw[qEy,qDs,← ql8 (g:=g) (B:=B) (least:=least) (k:=k) n]
  rfl
def dpt (g:List (qFa))(B least:Int)(k:Nat):Nat→Nat→Nat
 | 0,_=>0
 | f+1,i=>1+if (pkN g B least k i).1=0 then 0 else dpt g B least k f (i-(pkN g B least k i).1)
theorem qA2 {g:List (qFa)}{least:Int}{k i:Nat}:(pkN g B least k i).1≤i:=by
 have:=(qki (g:=g) (B:=B) (least:=least) (k:=k) (i:=i)).1
 omega
theorem qBc {g:List (qFa)}(hg:Gr g){least:Int}{k:Nat}(hh:hcE B least (k:Int)=0)(hl:(pkA g B least k g.length).1.length≤8192){i:Nat}(hi:i<g.length) :
  ∃ p q:Nat,p≤(pkA g B least k g.length).1.length∧pkO (pkA g B least k g.length).1 B i (pkA g B least k i).1.length=some (((pkN g B least k i).1:Int),p) ∧
   rdl (pkA g B least k g.length).1 p (i:Int) (pkF g i (pkN g B least k i).1) ((pkN g B least k i).1:Int) least k=some (g.getD i [],q):=by
 obtain ⟨k1,k2,k',hk,k3,k4⟩:=qe4 hh
 have hkk:k=k':=by omega
 subst hkk
 obtain ⟨hr,_⟩:=qki (g:=g) (B:=B) (least:=least) (k:=k) (i:=i)
 have hgl:=hg.1
 obtain ⟨R,hR⟩:=qqh (g:=g) (B:=B) (least:=least) (k:=k) hi
 have hA:(pkA g B least k (i+1)).1.length=(pkA g B least k i).1.length+(pkH B (pkN g B least k i).1).length+(enc (i:Int) (g.getD i []) (pkF g i (pkN g B least k i).1) ((pkN g B least k i).1:Int) least k).length:=by
  have:=(qki (g:=g) (B:=B) (least:=least) (k:=k) (i:=i)).2
  rw[pkA,this]
  unfold pkW
  simp only[qCh];omega
 have hM:=qhV (g:=g) (B:=B) (least:=least) (k:=k) (show i+1≤g.length from hi)
 refine ⟨(pkA g B least k i).1.length+(pkH B (pkN g B least k i).1).length,(pkA g B least k i).1.length+(pkH B (pkN g B least k i).1).length+(enc (i:Int) (g.getD i []) (pkF g i (pkN g B least k i).1) ((pkN g B least k i).1:Int) least k).length,by omega,?_,?_⟩
 ·unfold pkO pkH
  by_cases hB:B=0
  ·have:(pkN g B least k i).1=0:=by rw[hB] at hr ⊢;simp at hr;exact hr
   rw[if_pos hB,this,if_neg (by omega)]
   simp
  ·rw[if_neg hB,if_pos (by omega)]
   rw[hR]
   unfold pkH
   rw[if_pos (by omega)]
   simp only[qCi]
   exact qid (by omega) (by omega) _ _
 ·have hE:(enc (i:Int) (g.getD i []) (pkF g i (pkN g B least k i).1) ((pkN g B least k i).1:Int) least k).length≤8192:=by omega
  have hD:=qtx (k:=k) k3 k4 (node:=(i:Int)) (back:=((pkN g B least k i).1:Int)) (least:=least) (x:=g.getD i []) (fr:=pkF g i (pkN g B least k i).1) (by unfold Nd;omega) k2 (qok hg i) (fun _=>qkZ hg _ _) ((pkA g B least k i).1++pkH B (pkN g B least k i).1) R hE
  rw[hR]
  simp only[qCi,qCh] at hD ⊢
  exact hD
theorem qAG {l:List Nat}{i:Nat}(h:i<l.length):gf l (i:Int)=(((l[i]:Nat):Int),0):=by
 unfold gf;rw[if_pos (by omega),qCf,qCb h]
abbrev S14:=Int×Int×Int×Int×Int×qFa×Int×Int×Int×Int×qFa×Int×qFa×Int
def shz (e:Int):S14:=(0,0,0,0,0,[],0,0,0,0,[],0,[],e)
def fwp (g:List (qFa))(B least k:Int):F8:=fw (pkA g B least k.toNat g.length).2.2 ((pkA g B least k.toNat g.length).1.length:Int)
def shE (g:List (qFa))(B least k:Int):Int:=if pkE g B least k≠0 then pkE g B least k else (fwp g B least k).2.2.2.2.2.2.2
def shb (g:List (qFa))(B least k:Int):S14 :=
 if shE g B least k≠0 then shz (shE g B least k) else ((g.length:Int),B,least,k,((pkA g B least k.toNat g.length).1.length:Int),pk (pkA g B least k.toNat g.length).1,(fwp g B least k).1,(fwp g B least k).2.1,(fwp g B least k).2.2.1,(fwp g B least k).2.2.2.1,(fwp g B least k).2.2.2.2.1,(fwp g B least k).2.2.2.2.2.1,(fwp g B least k).2.2.2.2.2.2.1,0)
theorem qBb {g:List (qFa)}{least:Int}:shE g B least k=0↔pkE g B least k=0∧(fwp g B least k).2.2.2.2.2.2.2=0:=by
 grind [shE]
theorem qxj {g:List (qFa)}{least:Int}(h:shE g B least k=0):shb g B least k=((g.length:Int),B,least,k,((pkA g B least k.toNat g.length).1.length:Int),pk (pkA g B least k.toNat g.length).1,(fwp g B least k).1,(fwp g B least k).2.1,(fwp g B least k).2.2.1,(fwp g B least k).2.2.2.1,(fwp g B least k).2.2.2.2.1,(fwp g B least k).2.2.2.2.2.1,(fwp g B least k).2.2.2.2.2.2.1,0):=by
 grind [shb]
theorem qoM {g:List (qFa)}{least:Int}(h:shE g B least k≠0):shb g B least k=shz (shE g B least k):=by
 grind [shb]
def blt (N B least k m:Int)(b:qFa)(f:F8):S14:=if f.2.2.2.2.2.2.2≠0 then shz f.2.2.2.2.2.2.2 else (N,B,least,k,m,b,f.1,f.2.1,f.2.2.1,f.2.2.2.1,f.2.2.2.2.1,f.2.2.2.2.2.1,f.2.2.2.2.2.2.1,0)
theorem qmQ (hF:2000000≤F){g:List (qFa)}{least m:Int}(hp:pkE g B least k=0) :
  qbt F g N B least k m b=some (blt N B least k m b (fw (pkA g B least k.toNat g.length).2.2 m)):=qvs hF hp
theorem qr3 (hF:2000000≤F){g:List (qFa)}{least:Int}:qcC F g B least k=some (shb g B least k):=by
 unfold qcC
 rw[qkm hF]
 simp only[qCa]
 by_cases hp:pkE g B least k=0
 ·grind [pwr,qmQ,blt,fwp,qxj,shE,qoM]
 ·have e:pwr g B least k=(0,0,0,0,0,[],pkE g B least k):=by
   grind [pwr]
  have hs:shE g B least k=pkE g B least k:=by grind [shE]
  rw[e]
  simp only
  rw[if_pos (by grind),qoM (by omega),hs]
  rfl
theorem quf (F:Nat)(g:List (qFa))(N B least k m:Int)(b:qFa):qe1 F g N B least k m b=qbt F g N B least k m b:=rfl
theorem qm2 {g:List (qFa)}{least:Int}:(∃ (ns:List Nat) (kk:Nat),(pkA g B least k.toNat g.length).2.2=lc ns∧((pkA g B least k.toNat g.length).1.length:Int)=kk∧kk≤1048576∧ns.length≤300∧Up kk 0 ns∧Fits kk ns∧fwp g B least k=fo8 kk ns)∨(∃ e:Int,e≠0∧fwp g B least k=fz8 e):=by
 rcases qv2 (l:=(pkA g B least k.toNat g.length).2.2) (t:=((pkA g B least k.toNat g.length).1.length:Int)) with ⟨ns,kk,h1,h2,h3,h4,h5,h6,h7⟩ | ⟨e,h1,h2,_⟩
 ·exact Or.inl ⟨ns,kk,h1,h2,h3,h4,h5,h6,h7⟩
 ·exact Or.inr ⟨e,h1,h2⟩
theorem qyz {g:List (qFa)}{least:Int}:(fwp g B least k).2.2.2.2.1.length≤1100∧(fwp g B least k).2.2.2.2.2.2.1.length≤1100:=by
 rcases qm2 (g:=g) (B:=B) (least:=least) (k:=k) with ⟨ns,kk,h1,h2,h3,h4,h5,h6,h7⟩ | ⟨e,h1,h2⟩
 ·rw[h7]
  have e1:=qhh kk ns
  have e2:=qjw h5
  unfold Fits at h6
  unfold fo8
  simp only[qhX]
  omega
 ·rw[h2];unfold fz8;simp
theorem quQ {a1 a2 a3 a4 a6 n:Int}{a5 a7:qFa}(h1:a5.length<F)(h2:a7.length<F)(h3:a5.length≤1000000)(h4:a7.length≤1000000) :
  qfe F a1 a2 a3 a4 a5 a6 a7 n t w lw xl hw xh=some (decide ((a1,a2,a3,a4,a5,a6,a7)=(n,t,w,lw,xl,hw,xh))):=by
 unfold qfe qcN qcO
 by_cases h:a1=n∧a2=t∧a3=w∧a4=lw∧a6=hw
 ·obtain ⟨rfl,rfl,rfl,rfl,rfl⟩:=h
  rw[if_pos (by simp),peqb h1 h3]
  simp only[qCa]
  by_cases h5:a5=xl
  ·subst h5
   rw[if_pos (by simp),peqb h2 h4]
   simp
  simp_all
 grind [qEN]
instance f8Dec:DecidableEq F8:=fun a b=>decidable_of_iff (a.1=b.1∧a.2=b.2) ⟨fun h=>Prod.ext h.1 h.2,fun h=>by simp_all⟩
def shc (N B least k m:Int)(b:qFa)(n t w lw:Int)(xl:qFa)(hw:Int)(xh:qFa):Int :=
 if (prd N B least k m b).2≠0 then (prd N B least k m b).2 else if fwp (prd N B least k m b).1 B least k=(n,t,w,lw,xl,hw,xh,0) then 0 else 4
theorem ql1 (hF:2000000≤F){least m n:Int}(hb:U8s b)(hm:I64 m)(lb:b.length≤9223372036854775807) :
  qes F N B least k m b n t w lw xl hw xh=some (shc N B least k m b n t w lw xl hw xh):=by
 unfold qes shc
 rw[qwP hF hb hm lb]
 simp only[qCa]
 by_cases h:(prd N B least k m b).2=0
 ·obtain ⟨g,h1,h2,h3,h4,h5⟩:=qA5 hb h
  rw[h1]
  simp only
  rw[if_neg (by decide),if_neg (by simp),quf,qmQ hF h2]
  simp only[qCa]
  subst h4
  have ef:fw (pkA g B least k.toNat g.length).2.2 ((pkA g B least k.toNat g.length).1.length:Int)=fwp g B least k:=rfl
  rw[ef]
  by_cases he:(fwp g B least k).2.2.2.2.2.2.2=0
  ·grind [blt,qyz,quQ,qau]
  ·have e2:∀ m',blt N B least k m' b (fwp g B least k)=shz (fwp g B least k).2.2.2.2.2.2.2:=by
    grind [blt]
   rw[e2,if_pos (by simpa[shz] using he)]
   unfold qau
   grind
 simp_all
theorem qxk {g:List (qFa)}{least n:Int}(h:pkE g B least k=0)(hs:fwp g B least k=(n,t,w,lw,xl,hw,xh,0)) :
  shc (g.length:Int) B least k ((pkA g B least k.toNat g.length).1.length:Int) (pk (pkA g B least k.toNat g.length).1) n t w lw xl hw xh=0:=by
 grind [shc,qA4]
theorem qm0 {g:List (qFa)}{B least:Int}{k:Nat}(hp:pkE g B least (k:Int)=0){n t w lw hw:Int}{xl xh:qFa}(hf:fwp g B least (k:Int)=(n,t,w,lw,xl,hw,xh,0)) :
  ∀ (f F i rd:Nat),2000000+f≤F→i<f→i<g.length→rd+f≤1000000 →
  yF F (g.length:Int) B least (k:Int) ((pkA g B least k g.length).1.length:Int) (pk (pkA g B least k g.length).1) n t w lw xl hw xh (rd:Int) (i:Int) =
   some (g.getD i [],(g.length:Int),B,least,(k:Int),((pkA g B least k g.length).1.length:Int),n,t,w,lw,hw,((rd+dpt g B least k f i:Nat):Int))
 | 0,_,_,_,_,h,_,_=>by omega
 | f+1,F,i,rd,hF,hi,hg,hr=>by
  obtain ⟨F,rfl⟩:∃ F',F=F'+1:=⟨F-1,by omega⟩
  obtain ⟨p1,p2,p3⟩:=qhW hp
  rw[qCf] at p3
  have hG:=yC.1 p1
  have hgl:=hG.1
  obtain ⟨k1,k2,k',hk,k3,k4⟩:=qe4 p2
  have hkk:k=k':=by omega
  subst hkk
  obtain ⟨p,q,q1,q2,q3⟩:=qBc hG p2 p3 hg
  have hri:=qA2 (g:=g) (B:=B) (least:=least) (k:=k) (i:=i)
  have hbit:=qhl (g:=g) (B:=B) (least:=least) (k:=k) g.length
  have hmono:=qhV (g:=g) (B:=B) (least:=least) (k:=k) (show i≤g.length by omega)
  have hget:qfA F n t w lw xl hw xh (i:Int)=some (((pkA g B least k i).1.length:Int),0):=by
   rcases qm2 (g:=g) (B:=B) (least:=least) (k:=(k:Int)) with ⟨ns,kk,h1,h2,h3,h4,h5,h6,h7⟩ | ⟨e,h1,h2⟩
   ·rw[hf] at h7
    unfold fo8 at h7
    simp only[qEN] at h7
    obtain ⟨rfl,rfl,rfl,rfl,rfl,rfl,rfl,-⟩:=h7
    rw[qCf,ql8] at h1
    have hlen:ns.length=g.length:=by
     have:=congrArg List.length h1
     grind [qhR]
    rw[qv4 (by omega) (qBD h5 h6) (qyC h3 h4 h5 h6),qAG (show i<ns.length by omega)]
    have h8:=qAP (l:=ns) (i:=i) (by omega)
    grind
   grind [fz8]
  unfold yF
  simp only
  rw[hget]
  simp only[qCa]
  rw[qtq (by omega) hbit p3 k1 (by omega) (by omega),q2]
  simp only[qCa]
  have hfrom:∀ fr:qFa,fr=pkF g i (pkN g B least k i).1→qaK F ((pkA g B least k g.length).1.length:Int) (pk (pkA g B least k g.length).1) (p:Int) (i:Int) fr ((pkN g B least k i).1:Int) least (k:Int)=some (g.getD i [],(q:Int),0):=by
   rintro fr rfl
   grind [qqy,Nd,qkZ]
  by_cases h0:(pkN g B least k i).1=0
  ·grind [yq,pkF,qp,dpt]
  ·rw[if_pos (by grind),qp (by omega)]
   have e1:isub .i64 (i:Int) ((pkN g B least k i).1:Int)=((i-(pkN g B least k i).1:Nat):Int):=by
    grind [zN]
   rw[e1,qm0 hp hf f F (i-(pkN g B least k i).1) (rd+1) (by omega) (by omega) (by omega) (by omega)]
   grind [yq,pkF,dpt]
structure Shf (g:List (qFa)) (B least k n t w lw:Int) (xl:qFa) (hw:Int) (xh:qFa):Prop where
 pe:pkE g B least k=0
 fe:fwp g B least k=(n,t,w,lw,xl,hw,xh,0)
theorem qy7 {g:List (qFa)}{least:Int}(h:shE g B least k=0):Shf g B least k (fwp g B least k).1 (fwp g B least k).2.1 (fwp g B least k).2.2.1 (fwp g B least k).2.2.2.1 (fwp g B least k).2.2.2.2.1 (fwp g B least k).2.2.2.2.2.1 (fwp g B least k).2.2.2.2.2.2.1:=by
 obtain ⟨h1,h2⟩:=qBb.1 h
 refine ⟨h1,?_⟩
 grind
theorem qAb {g:List (qFa)}{least n:Int}(s:Shf g B least k n t w lw xl hw xh) :
  U8s (pk (pkA g B least k.toNat g.length).1)∧I64 ((pkA g B least k.toNat g.length).1.length:Int)∧(pk (pkA g B least k.toNat g.length).1).length≤9223372036854775807:=by
 obtain ⟨p1,p2,p3⟩:=qhW s.pe
 refine ⟨qhY (qhl _),⟨by omega,by omega⟩,?_⟩
 rw[qhX];omega
def rdn' (g:List (qFa))(B least k:Int)(i:Nat):Nat:=dpt g B least k.toNat 101 i
theorem qyM (hF:2000200≤F){g:List (qFa)}{least n:Int}(s:Shf g B least k n t w lw xl hw xh){i:Nat}(hi:i<g.length) :
  qcr F (g.length:Int) B least k ((pkA g B least k.toNat g.length).1.length:Int) (pk (pkA g B least k.toNat g.length).1) n t w lw xl hw xh (i:Int)=some (g.getD i [],(rdn' g B least k i:Int),0):=by
 obtain ⟨p1,p2,p3⟩:=qhW s.pe
 have hgl:=(yC.1 p1).1
 obtain ⟨k1,k2,k',rfl,k3,k4⟩:=qe4 p2
 obtain ⟨b1,b2,b3⟩:=qAb s
 unfold qcr
 rw[ql1 (by omega) b1 b2 b3,qxk s.pe s.fe]
 simp only[qCa]
 rw[if_pos (by rfl)]
 unfold qbg
 rw[if_neg (by simp_all)]
 unfold qbf
 rw[if_neg (by decide)]
 have:=qm0 s.pe s.fe 101 F i 0 (by omega) (by omega) hi (by omega)
 rw[qCf] at *
 rw[show ((0:Nat):Int)=0 from rfl] at this
 rw[this]
 simp only[qCa]
 unfold rdn'
 simp
theorem qwn (hF:2000200≤F){g:List (qFa)}{least n:Int}(s:Shf g B least k n t w lw xl hw xh)(hi:i<0∨(g.length:Int)≤i) :
  qcr F (g.length:Int) B least k ((pkA g B least k.toNat g.length).1.length:Int) (pk (pkA g B least k.toNat g.length).1) n t w lw xl hw xh i=some ([],0,3):=by
 obtain ⟨b1,b2,b3⟩:=qAb s
 unfold qcr
 rw[ql1 (by omega) b1 b2 b3,qxk s.pe s.fe]
 grind [qbg,qbf]
abbrev DR:=List (qFa)×Int×Int×Int×qFa×Int
def Fin (g:List (qFa))(B l K:Int)(r:DR):Prop :=
 (∃ e:Int,0<e∧e≤100∧r=([],0,0,0,[],e))∨∃ g' B' l' K' t,r=(g',B',l',K',t,0)∧Gr g'∧hcE B' l' K'=0∧t.length≤2000000∧(t=[111,107]∨g'=g∧B'=B∧l'=l∧K'=K)
def Fine (g:List (qFa))(B l K:Int)(o:Option DR):Prop:=∃ r,o=some r∧Fin g B l K r
theorem vH {g g':List (qFa)}{l B' l' K' e:Int}{n t:qFa}(h:0<e∧e≤100∨e=0∧Gr g'∧hcE B' l' K'=0∧t.length≤2000000∧(t=[111,107]∨g'=g∧B'=B∧l'=l∧K'=K)) :
  Fine g B l K (qs F e g' B' l' K' n t):=by
 rw[qAN]
 refine ⟨_,rfl,?_⟩
 unfold dkE
 rcases h with h | ⟨rfl,h⟩
 ·rw[if_pos (by omega)];exact .inl ⟨e,h.1,h.2,rfl⟩
 ·rw[if_neg (by decide)];exact .inr ⟨g',B',l',K',t,rfl,h⟩
theorem qye {s:List UInt8}{v:Int}(h:Lib.atoiAll s=.ok v):v≤9223372036854775807:=by
 unfold Lib.atoiAll at h
 split at h
 ·cases h
 ·dsimp only at h
  split at h
  ·cases h
  ·cases h
  ·split at h
   ·cases h
   ·split at h
    ·cases h
    ·cases h
     split <;> omega
theorem qud {w:qFa}(h:w.length≤281474976710656):∃ v ok,atoiE w=some (v,ok)∧(ok=true→v≤9223372036854775807):=by
 unfold atoiE
 rw[if_pos h]
 split
 ·exact ⟨_,_,rfl,fun _=>qye (by assumption)⟩
 ·exact ⟨_,_,rfl,fun h=>by cases h⟩
 ·exact ⟨_,_,rfl,fun h=>by cases h⟩
theorem qm4 {v:Int}(h:-9223372036854775808≤v∧v≤9223372036854775807):∃ x,itoaC v=some x:=⟨_,if_pos h⟩
theorem qxT {F:Nat}{N:Int}{ws:List (qFa)}(hm:ws.length≤2000000)(hw:∀ w∈ws,w.length≤2000000):∀ (k i:Nat) (ns:qFa),ws.length<k+i→i≤ws.length→ns.length=i→(∀ n∈ns,0≤n) →
  ∃ b ns',jf F N ws k ((i:Int),ns)=some (b,ns')∧(b=true→(ns'.length:Int)=N∧∀ n∈ns',0≤n)
 | 0,_,_,_,_,_,_=>by omega
 | k+1,i,ns,h,hi,hl,h0=>by
  show ∃ b ns',qbw F N ws (jf F N ws k) (i:Int) ns=some (b,ns')∧_
  unfold qbw
  by_cases hlt:i<ws.length
  ·rw[if_pos (decide_eq_true (by omega)),qk,qCb hlt]
   simp only[qCa]
   have hwi:=hw _ (qCs hlt)
   obtain ⟨v,ok,hv,hok⟩:=qud (w:=ws[i]) (by omega)
   rw[hv]
   simp only[qCa]
   unfold je
   split
   ·exact ⟨false,ns,rfl,fun h=>by cases h⟩
   ·rename_i hc
    simp only[qDB,qDF,decide_eq_true_eq,not_or,Bool.not_eq_false] at hc
    have hv2:=hok hc.1.1
    obtain ⟨x,hx⟩:=qm4 (v:=v) (by omega)
    rw[hx]
    simp only[qCa]
    split
    ·exact ⟨false,ns,rfl,fun h=>by cases h⟩
    ·rw[kY (by simp;omega)]
     simp only[qCa]
     rw[qp (by omega)]
     refine qxT hm hw k (i+1) _ (by omega) (by omega) (by simp[hl]) fun n hn=>?_
     rcases qCg.1 hn with hn | hn
     ·exact h0 n hn
     ·rw[List.mem_singleton] at hn;subst hn;omega
  ·rw[if_neg (by simp;omega)]
   have:i=ws.length:=by omega
   subst this
   refine ⟨_,_,rfl,fun hb=>⟨?_,h0⟩⟩
   rw[hl];simpa using hb
theorem jy {g:List (qFa)}{l:Int}{ws:List (qFa)}{f:Bool×qFa→Option DR}(hF:2000200≤F)(hm:ws.length≤2000000)(hw:∀ w∈ws,w.length≤2000000)(hf:∀ ns,(ns.length:Int)=N→(∀ n∈ns,0≤n)→Fine g B l K (f (true,ns))) :
  Fine g B l K ((qT F g B l K [] [111,107] N ws).bind fun x=>if x.1 then f x else qs F 1 g B l K x.2 [111,107]):=by
 obtain ⟨b,ns,h1,h2⟩:=qxT (F:=F) (N:=N) hm hw F 0 [] (by omega) (by omega) rfl (by simp)
 rw[show qT F g B l K [] [111,107] N ws=some (b,ns) from h1]
 simp only[qCa]
 cases b with
 | false=>rw[if_neg (by simp)];exact vH (.inl (by decide))
 | true=>rw[if_pos rfl];exact hf ns (h2 rfl).1 (h2 rfl).2
theorem qbq {x:α}{xs:List α}:sub (x::xs) 1 ((x::xs).length:Int)=some xs:=by
 unfold sub
 rw[if_pos ⟨by decide,by rw[qCt];omega,Int.le_refl _⟩,qCf,qDv]
 rfl
def ls3 (L:qFa):List (qFa):=L.map dcI
theorem qwm {F:Nat}{L:qFa}(hL:∀ x∈L,0≤x∧x<1000)(hm:L.length≤1000):∀ (k i:Nat),L.length<k+i→i≤L.length→qb4 F L k (ls3 (L.take i),(i:Int))=joinM (ls3 L) [32]
 | 0,_,_,_=>by omega
 | k+1,i,h,hi=>by
  show qb2 F L (qb4 F L k) (ls3 (L.take i)) (i:Int)=_
  unfold qb2
  by_cases hlt:i<L.length
  ·rw[if_pos (decide_eq_true (by omega)),qk,qCb hlt]
   simp only[qCa]
   rw[qoc (hL _ (qCs hlt))]
   simp only[qCa]
   rw[kY (by simp[ls3];omega)]
   simp only[qCa]
   rw[qp (by omega),← qwm hL hm k (i+1) (by omega) (by omega)]
   congr 2
   unfold ls3
   rw[jF hlt,qDs];rfl
  ·rw[if_neg (by simp;omega),List.take_of_length_le (by omega)]
   unfold qb3
   cases joinM (ls3 L) [32] <;> rfl
theorem qvr (x:qFa):(bstr x).data.toList.length=x.length:=by
 have:=vP x
 simpa using this
theorem qwk (hL:∀ x∈L,0≤x∧x<1000):Lib.lens ((ls3 L).map fun x=>(bstr x).data.toList)≤3*L.length:=by
 induction L with
 | nil=>exact qCq _
 | cons x L ih =>
  have h1:=(qrr (hL x (qCu ..))).2
  have h2:=ih fun y hy=>hL y (qCx _ hy)
  unfold Lib.lens ls3 at h2 ⊢
  simp only[qCU,List.sum_cons,qCt,qvr] at h2 ⊢
  omega
theorem qvg {g:List (qFa)}{l:Int}{n:qFa}(hF:2000≤F)(hL:∀ x∈L,0≤x∧x<1000)(hm:L.length≤1000):∃ t,jS F g B l K n s L=some t∧joinM (ls3 L) [32]=some t∧t.length≤5000:=by
 have h:=qwm (F:=F) hL hm F 0 (by omega) (by omega)
 have hj:(Lib.join ((ls3 L).map fun x=>(bstr x).data.toList) (bstr [32]).data.toList).length≤5000:=by
  have h1:=qwk hL
  generalize hq:(ls3 L).map (fun x=>(bstr x).data.toList)=q at h1
  have hql:q.length=L.length:=by rw[← hq];simp[ls3]
  cases q with
  | nil=>rw[Lib.join_nil];exact qCH _
  | cons x r =>
   rw[Lib.join_length,qvr]
   rw[qCt] at hql
   simp only[qCt,qDD]
   omega
 have hs:joinM (ls3 L) [32]=some (lB ⟨(Lib.join ((ls3 L).map fun x=>(bstr x).data.toList) (bstr [32]).data.toList).toArray⟩):=by
  unfold joinM
  rw[if_pos ⟨by simp[ls3];omega,by omega⟩]
 refine ⟨_,h.trans hs,hs,?_⟩
 simpa[lB] using hj
theorem qBV {g:List (qFa)}(hg:Gr g){x y:Nat}(hx:x<g.length)(h:Sc g x y):y<g.length:=by
 obtain ⟨k,hk⟩:=h.1
 exact qB2 hg hx hk
def Acy (g:List (qFa)):Prop:=∀ i,i<g.length→P g i=i∧¬ Ld g i i
theorem Acy.sc {g:List (qFa)}(hg:Gr g)(h:Acy g){x y:Nat}(hx:x<g.length)(hs:Sc g x y):x=y:=by
 have hy:=qBV hg hx hs
 have:=(qBC hg hx hy).2 hs
 rw[(h x hx).1,(h y hy).1] at this
 omega
theorem qA0 (g:List (qFa)):OI g []:=⟨qDy,by simp,by simp⟩
theorem qne {g:List (qFa)}(hg:Gr g):∀ (m:Nat) (out o:List Nat),OI g out→ordM g m out=some o→OI g o∧o.take out.length=out∧o.length=out.length+m∧∀ j,out.length≤j→j<o.length→nxO g (o.take j)=o[j]?
 | 0,out,o,ho,h=>by
  grind [ordM]
 | m+1,out,o,ho,h=>by
  cases hn:nxO g out with
  | none=>simp[ordM,hn] at h
  | some i =>
   obtain ⟨hi,hf,_⟩:=qqd hn
   simp only[ordM,hn] at h
   obtain ⟨h1,h2,h3,h4⟩:=qne hg m _ _ (ho.snoc hg hi hf) h
   rw[qCh,qDz] at h2 h3 h4
   have ht:o.take out.length=out:=by
    have:(o.take (out.length+1)).take out.length=(out++[i]).take out.length:=by rw[h2]
    grind
   refine ⟨h1,ht,by omega,fun j hj hjl=>?_⟩
   by_cases e:j=out.length
   ·subst e
    rw[ht,hn]
    have:(o.take (out.length+1))[out.length]?=(out++[i])[out.length]?:=by rw[h2]
    grind
   grind
structure Tp (g:List (qFa)) (o:qFa):Prop where
 len:o.length=g.length
 nd:o.Nodup
 rg:∀ x∈o,0≤x∧x<g.length
 up:∀ i j a b:Nat,Ld g i j→o[a]?=some (i:Int)→o[b]?=some (j:Int)→a<b
theorem qrP {L:List Nat}{n:Nat}(h:L.Nodup)(hl:L.length=n)(hlt:∀ x∈L,x<n):∀ x,x<n→x∈L:=fun x hx=>Classical.byContradiction fun hc=>by
 have:=qfT (L:=x::L) (M:=qCz n) (qDm.2 ⟨hc,h⟩) fun y hy=>by
  grind
 grind
theorem Tp.nat {g:List (qFa)}{o:qFa}(h:Tp g o):∃ q:List Nat,o=iz q∧q.Nodup∧q.length=g.length∧∀ x∈q,x<g.length:=by
 refine ⟨o.map Int.toNat,?_,?_,by simp[h.len],fun x hx=>?_⟩
 ·unfold iz
  rw[List.map_map]
  conv=>lhs;rw[← List.map_id o]
  refine List.map_congr_left fun x hx=>?_
  have:=h.rg x hx
  grind
 ·refine qDG.2 (List.Pairwise.imp_of_mem (fun hx hy hne e=>?_) h.nd)
  have:=h.rg _ hx;have:=h.rg _ hy
  omega
 ·obtain ⟨y,hy,rfl⟩:=qCK.1 hx
  have:=h.rg y hy
  omega
theorem qAY {L:List α}(h:L.Nodup){i j:Nat}{x:α}(hi:L[i]?=some x)(hj:L[j]?=some x):i=j:=by
 grind [qCT]
theorem qyJ {q:List Nat}{a i:Nat}:(iz q)[a]?=some (i:Int)↔q[a]?=some i:=by
 unfold iz
 grind
theorem Tp.pos {g:List (qFa)}{o:qFa}(h:Tp g o){i:Nat}(hi:i<g.length):∃ a,o[a]?=some (i:Int)∧a<g.length:=by
 obtain ⟨q,rfl,h1,h2,h3⟩:=h.nat
 obtain ⟨a,ha,e⟩:=List.getElem_of_mem (qrP h1 h2 h3 i hi)
 exact ⟨a,qyJ.2 (by grind),by omega⟩
theorem Tp.wk {g:List (qFa)}(hg:Gr g){o:qFa}(h:Tp g o):∀ {k i j a b:Nat},Wk g k i j→o[a]?=some (i:Int)→o[b]?=some (j:Int)→a+k≤b
 | 0,i,j,a,b,hw,ha,hb=>by
  obtain rfl:i=j:=hw
  have:=qAY h.nd ha hb
  omega
 | k+1,i,j,a,b,hw,ha,hb=>by
  obtain ⟨u,h1,h2⟩:=hw
  obtain ⟨c,hc,_⟩:=h.pos (qlF hg h1).2
  have:=h.up i u a c h1 ha hc
  have:=Tp.wk hg h h2 hc hb
  omega
theorem known1 {g:List (qFa)}{l:Int}{n:qFa}(hF:10≤F):ka F g B l K n s [a]=some (decide (a<g.length)):=by
 unfold ka qZ zg
 obtain ⟨k,rfl⟩:∃ k,F=k+2:=⟨F-2,by omega⟩
 have e0:qH (k+2) [a] g B l K n s (k+2) 0=if (g.length:Int)≤a then some 0 else some (-1):=by
  show qB (k+2) [a] g B l K n s (qH (k+2) [a] g B l K n s (k+1)) 0=_
  unfold qB vg
  rw[if_pos (by simp),show idx [a] (0:Int)=some a from rfl]
  simp only[qCa,decide_eq_true_eq]
  rfl
 rw[e0]
 by_cases h1:(g.length:Int)≤a
 ·rw[if_pos h1]
  simp only[qCa]
  rw[decide_eq_false (by omega:¬ a<(g.length:Int))];rfl
 ·rw[if_neg h1]
  simp only[qCa]
  rw[decide_eq_true (by omega:a<(g.length:Int))];rfl
theorem qAJ {n:Nat}(h:n≤100):Gr (qCc n []):=by
 refine ⟨by simpa using h,fun r hr=>?_,?_⟩
 ·rw[List.eq_of_mem_replicate hr];simp
 ·have:∀ m,gtot (qCc m [])=0:=fun m=>by
   induction m with
   | zero=>rfl
   | succ m ih=>rw[qDe];show 0+gtot _=0;omega
  rw[this];omega
theorem qpG {g:List (qFa)}{l:Int}(h0:0≤a):qaR F g B l K [a] s=some (if 100<a then (3,g) else (0,qCc a.toNat [])):=by
 unfold qaR
 rw[show idx [a] (0:Int)=some a from rfl]
 simp only[qCa]
 by_cases h:100<a
 ·rw[if_pos (by simpa using h),if_pos h]
 ·rw[if_neg (by simpa using h),if_neg h]
  unfold mk
  rw[if_pos (by omega)];rfl
theorem qz5 {n:Int}:∀ {A seen:List (Int×Int)},ofE n seen A=0∨ofE n seen A=3∨ofE n seen A=6
 | [],_=>.inl rfl
 | p::A,seen=>by
  rw[qqe]
  split
  ·exact .inr (.inl rfl)
  ·split
   ·exact .inr (.inr rfl)
   ·exact qz5
theorem qwA {n:Nat}{A:List (Int×Int)}:(0<(ofM n A).2∧(ofM n A).2≤100)∨(ofM n A).2=0∧Gr (ofM n A).1:=by
 by_cases h1:(n:Int)<0∨100<(n:Int)
 ·left;unfold ofM;rw[if_pos h1];exact by decide
 by_cases h2:600<A.length
 ·left;unfold ofM;rw[if_neg h1,if_pos h2];exact by decide
 by_cases h3:ofE n [] A=0
 ·right
  have h4:=qoA.1 h3
  rw[qyS (by omega) (by omega) h4.1 h4.2.1]
  have hT:=qks (n:=n) h4.2.1
  exact ⟨rfl,qp7 hT h4.1 (by omega) (by rw[(qiW hT h4.1 h4.2.1).length_eq];omega)⟩
 ·left
  unfold ofM
  rw[if_neg h1,if_neg h2,if_pos h3]
  have:=qz5 (n:=n) (A:=A) (seen:=[])
  simp only
  omega
theorem qug {g:List (qFa)}{l b:Int}(hF:1000≤F)(hg:Gr g):qcj F g B l K [a,b] s=some ((ofM g.length (af 0 g++[(a,b)])).2,(ofM g.length (af 0 g++[(a,b)])).1):=by
 unfold qcj
 rw[qyd hF,if_neg (by rw[yC.2 hg];decide)]
 simp only[qCa]
 rw[(qbn (a:=a) (b:=b)).1,(qbn (a:=a) (b:=b)).2]
 simp only[qCa]
 have:=qlz hg
 rw[kY (by simp;omega)]
 simp only[qCa]
 rw[qBQ hF]
 rfl
theorem qm3 {F:Nat}{r:qFa}{v:Int}(hm:r.length≤1000):∀ (k j:Nat),r.length<k+j→j≤r.length→∃ i,q6 F r v k (j:Int)=some i∧(i<0∨v∈r)
 | 0,j,h,hj=>by omega
 | k+1,j,h,hj=>by
  show ∃ i,q5 F r v (q6 F r v k) (j:Int)=some i∧_
  unfold q5
  by_cases hlt:j<r.length
  ·rw[if_pos (decide_eq_true (by omega)),qk,qCb hlt]
   simp only[qCa]
   by_cases e:v=r[j]
   ·rw[if_pos (by simp[e])]
    exact ⟨_,rfl,.inr (e▸qCs hlt)⟩
   ·rw[if_neg (by simpa using e),qp (by omega)]
    exact qm3 hm k (j+1) (by omega) (by omega)
  ·rw[if_neg (by simp;omega)]
   exact ⟨_,rfl,.inl (by decide)⟩
theorem qmD {g:List (qFa)}{l b:Int}(hF:1000≤F)(hg:Gr g)(h0:0≤a)(hm:(a,b)∉af 0 g) :
  ∃ e,vq F g B l K [a,b] s=some (e,g)∧0<e∧e≤100:=by
 unfold vq
 rw[known2 (by omega)]
 simp only[qCa]
 by_cases h1:a<g.length∧b<g.length
 ·rw[decide_eq_true h1,if_neg (by simp),(qbn (a:=a) (b:=b)).1,(qbn (a:=a) (b:=b)).2]
  simp only[qCa]
  obtain ⟨n,rfl⟩:=qCd h0
  have hn:n<g.length:=by omega
  rw[qk,qCb hn]
  simp only[qCa]
  have hr:=qcd hg (qCs hn)
  obtain ⟨i,h2,h3⟩:=qm3 (F:=F) (r:=g[n]) (v:=b) (by omega) F 0 (by omega) (by omega)
  rw[show zE F g[n] b=some i from h2]
  simp only[qCa]
  rcases h3 with h3 | h3
  ·rw[if_pos (by simpa using h3)];exact ⟨5,rfl,by decide,by decide⟩
  ·exact absurd (qgH.2 ⟨n,g[n],qCb hn,by simp,h3⟩) hm
 ·rw[decide_eq_false h1,if_pos (by simp)]
  exact ⟨3,rfl,by decide,by decide⟩
theorem qBJ (B l K:Int):hcE B l K=0∨hcE B l K=3:=by
 unfold hcE;split
 ·exact .inr rfl
 ·exact .inl rfl
theorem qui {g:List (qFa)}{l b c:Int}:qcl F g B l K [a,b,c] s=some (hcE a b c,a,b,c):=by
 unfold qcl
 rw[show idx [a,b,c] (0:Int)=some a from rfl,show idx [a,b,c] (1:Int)=some b from rfl,show idx [a,b,c] (2:Int)=some c from rfl]
 simp only[qCa]
 rw[qfm]
 rfl
theorem qlr:∀ (m u:Nat),u<m→(Lib.decDigits u).length≤u+1
 | 0,_,h=>by omega
 | m+1,u,h=>by
  by_cases h1:u<10
  ·rw[dg1 h1];simp
  ·have:=qlr m (u/10) (by omega)
   rw[dg2 h1,qCh,qDz]
   omega
theorem qjx {v:Int}(h:-1≤v∧v≤1000000):∃ x,itoaC v=some x∧x.length≤2000000:=by
 refine ⟨_,if_pos (by omega),?_⟩
 unfold Lib.itoa
 split
 ·have:=qlr _ v.natAbs (qES _)
  simp[lB];omega
 ·have:=qlr _ v.toNat (qES _)
  simp[lB];omega
theorem qz6 {g:List (qFa)}{l:Int}(hg:Gr g)(hh:hcE B l K=0):pkE g B l K=0∨pkE g B l K=8:=by
 unfold pkE
 rw[if_neg (by rw[yC.2 hg];decide),if_neg (by rw[hh];decide)]
 split
 ·exact .inr rfl
 ·exact .inl rfl
theorem qrh {g:List (qFa)}{l:Int}{n:qFa}(hF:2000000≤F)(hg:Gr g)(hh:hcE B l K=0):∃ e t,qbD F g B l K n s=some (e,t)∧(e=0∨e=8)∧t.length≤2000000:=by
 unfold qbD jQ
 rw[qkm hF]
 simp only[qCa]
 unfold pwr
 rcases qz6 hg hh with h | h
 ·obtain ⟨_,_,h3⟩:=qhW h
  rw[if_neg (by rw[h];decide)]
  obtain ⟨x,hx,hl⟩:=qjx (v:=((pkA g B l K.toNat g.length).1.length:Int)) (by omega)
  simp only
  rw[hx]
  exact ⟨_,_,rfl,.inl rfl,hl⟩
 ·rw[if_pos (by rw[h];decide)]
  obtain ⟨x,hx,hl⟩:=qjx (v:=0) (by omega)
  simp only
  rw[hx]
  exact ⟨_,_,rfl,.inr h,hl⟩
theorem qzS {t:Nat}{f:Nat→Nat}(hf:∀ i j,i≤j→f i≤f j):∀ (m i last:Nat),last≤f i→(∀ j,j<i+m→f j≤t)→Up t last ((List.range' i m).map f)
 | 0,_,_,_,_=>trivial
 | m+1,i,last,h,ht=>by
  rw[List.range'_succ,qCU]
  exact ⟨h,ht i (by omega),qzS hf m (i+1) (f i) (hf _ _ (by omega)) fun j hj=>ht j (by omega)⟩
theorem qwI {g:List (qFa)}{B l:Int}{k:Nat}:∀ n,(pkA g B l k n).2.2=lc ((qCz n).map fun i=>(pkA g B l k i).1.length)
 | 0=>rfl
 | n+1=>by
  rw[pkA,qwI n]
  simp[lc,qEy]
theorem qBW {g:List (qFa)}{l:Int}(hg:Gr g)(hh:hcE B l K=0):shE g B l K=0∨shE g B l K=8:=by
 unfold shE
 rcases qz6 hg hh with h | h
 ·obtain ⟨_,_,h3⟩:=qhW h
  have h1:=hg.1
  rw[if_neg (by rw[h];decide)]
  unfold fwp
  rw[qwI,List.range_eq_range',(qog (t:=(pkA g B l K.toNat g.length).1.length) (by omega) (by simp;omega) (qzS (fun i j h=>qhV h) g.length 0 0 (qCH _) fun j hj=>qhV (by omega))).2]
  split
  ·exact .inl rfl
  ·exact .inr rfl
 ·rw[if_pos (by rw[h];decide)];exact .inr h
def dkj (L:qFa):qFa:=(joinM (ls3 L) [32]).getD []
theorem qio {g:List (qFa)}{l:Int}{n:qFa}(hF:2000≤F)(hL:∀ x∈L,0≤x∧x<1000)(hm:L.length≤1000):jS F g B l K n s L=some (dkj L)∧(dkj L).length≤5000:=by
 obtain ⟨t,h1,h2,h3⟩:=qvg (F:=F) (g:=g) (B:=B) (l:=l) (K:=K) (n:=n) (s:=s) hF hL hm
 unfold dkj
 rw[h2]
 exact ⟨h1,h3⟩
theorem qw8 {g:List (qFa)}{r:qFa}(hg:Gr g)(hr:r∈g):(∀ x∈r,0≤x∧x<1000)∧r.length≤1000:=by
 have h1:=hg.1
 have h2:=qcd hg hr
 refine ⟨fun x hx=>?_,by omega⟩
 have:=(hg.2.1 r hr).2 x hx
 omega
def findT (g:List (qFa))(a:Int):Int×qFa:=if a<g.length then (0,dkj (g.getD a.toNat [])) else (3,dkj [])
theorem qrk {g:List (qFa)}{l:Int}(hF:2000200≤F)(hg:Gr g)(hh:hcE B l K=0)(h0:0≤a):qbE F g B l K [a] s=some (if shE g B l K=0 then findT g a else (8,s)):=by
 unfold qbE jR
 rw[qr3 (by omega)]
 simp only[qCa]
 rcases qBW hg hh with h | h
 ·rw[qxj h,if_pos h]
  simp only
  rw[if_neg (by decide),show idx [a] (0:Int)=some a from rfl]
  simp only[qCa]
  have sf:=qy7 h
  unfold findT
  by_cases ha:a<g.length
  ·obtain ⟨i,rfl⟩:=qCd h0
   have hi:i<g.length:=by omega
   rw[if_pos ha,qyM hF sf hi]
   simp only[qCa]
   have hr:=qw8 hg (qCs hi)
   have e:g.getD i []=g[i]:=by simp[qDR,qCb hi]
   rw[qCf,e,(qio (by omega) hr.1 hr.2).1]
   rfl
  ·rw[if_neg ha,qwn hF sf (.inr (by omega))]
   simp only[qCa]
   rw[(qio (by omega) (by simp) (by simp)).1]
   rfl
 ·rw[qoM (by rw[h];decide),h]
  unfold shz
  simp only
  rw[if_pos (by decide),if_neg (by decide)]
theorem qvX {g:List (qFa)}(hg:Gr g)(h0:0≤a):((findT g a).1=0∨(findT g a).1=3)∧(findT g a).2.length≤5000:=by
 unfold findT
 split
 ·have hi:a.toNat<g.length:=by omega
  have hr:=qw8 hg (qCs hi)
  have e:g.getD a.toNat []=g[a.toNat]:=by simp[qDR,qCb hi]
  refine ⟨.inl rfl,?_⟩
  rw[e]
  exact (qio (F:=2000) (g:=g) (B:=0) (l:=0) (K:=0) (n:=[]) (s:=[]) (by omega) hr.1 hr.2).2
 ·exact ⟨.inr rfl,(qio (F:=2000) (g:=g) (B:=0) (l:=0) (K:=0) (n:=[]) (s:=[]) (L:=[]) (by omega) (by simp) (by simp)).2⟩
def mayT (r:qFa×Int)(z:Int):Int×qFa:=if r.2=z then (0,[110,111,110,101]) else (r.2,dkj r.1)
theorem qkD {g:List (qFa)}{l z:Int}{n:qFa}{r:qFa×Int}(hF:2000≤F)(hL:∀ x∈r.1,0≤x∧x<1000)(hm:r.1.length≤1000):vR F g B l K n s r.1 r.2 z=some (mayT r z):=by
 unfold vR jd mayT
 rw[(qio hF hL hm).1]
 simp only[qCa]
 by_cases h:r.2=z
 ·rw[if_pos (by simpa using h),if_pos h]
 ·rw[if_neg (by simpa using h),if_neg h]
theorem qtd {r:qFa×Int}{z:Int}(hz:r.2=0∨0<r.2∧r.2≤100)(hL:∀ x∈r.1,0≤x∧x<1000)(hm:r.1.length≤1000):((mayT r z).1=0∨0<(mayT r z).1∧(mayT r z).1≤100)∧(mayT r z).2.length≤5000:=by
 unfold mayT
 split
 ·exact ⟨.inl rfl,by decide⟩
 ·exact ⟨hz,(qio (F:=2000) (g:=[]) (B:=0) (l:=0) (K:=0) (n:=[]) (s:=[]) (by omega) hL hm).2⟩
theorem qz0 {q:List Nat}{m:Nat}(h:∀ i∈q,i<m)(hm:m≤100):∀ x∈iz q,0≤x∧x<1000:=fun x hx=>by
 obtain ⟨i,hi,rfl⟩:=qCK.1 hx
 have:=h i hi
 omega
theorem qBr {g:List (qFa)}{ns:qFa}(hg:Gr g):wchk g ns=0∨wchk g ns=3:=by
 unfold wchk
 rw[if_neg (by rw[yC.2 hg];decide)]
 split
 ·exact .inr rfl
 ·exact .inl rfl
theorem qx0 {g:List (qFa)}(a b:Int)(hg:Gr g):((wayM g a b).2=0∨0<(wayM g a b).2∧(wayM g a b).2≤100)∧(∀ x∈(wayM g a b).1,0≤x∧x<1000)∧(wayM g a b).1.length≤1000:=by
 unfold wayM
 rcases qBr (ns:=[a,b]) hg with h | h
 ·rw[if_neg (by rw[h];decide)]
  obtain ⟨_,⟨n,rfl,hn⟩,m,rfl,hm⟩:=wchk2 h
  rw[qCf,qCf]
  split
  ·exact ⟨by decide,by simp,by simp⟩
  ·rename_i hz
   have h1:=hg.1
   have hl:=qhr g
   have hf:=qjo (qme hg) (s:=m) (by omega)
   have hlt:=hf.lt n (by omega)
   obtain ⟨k,hk⟩:=qCd (by omega:0≤gD (farL (tn g) m) n)
   rw[hk,qCf]
   have hw:=qx5 g (farL (tn g) m) k n
   refine ⟨.inl rfl,qz0 (m:=g.length) (fun i hi=>?_) h1,by rw[qdH,hw];omega⟩
   obtain ⟨j,hj,he⟩:=qEd.1 hi
   have h2:=qx4 hg hf k n j hk (by omega)
   rw[show (wy g (farL (tn g) m) k n).getD j 0=i from by simp[qDR,qCb hj,he]] at h2
   refine Nat.lt_of_not_le fun hc=>?_
   rw[qrx (by rw[hf.len,hl];exact hc)] at h2
   omega
 ·rw[if_pos (by rw[h];decide),h]
  exact ⟨by decide,by simp,by simp⟩
theorem quj {g:List (qFa)}{l b:Int}(hF:2000≤F)(hg:Gr g):qcm F g B l K [a,b] s=some (mayT (wayM g a b) 5):=by
 unfold qcm
 rw[(qbn (a:=a) (b:=b)).1,(qbn (a:=a) (b:=b)).2]
 simp only[qCa]
 rw[qAq hF]
 simp only[qCa]
 have h:=qx0 a b hg
 rw[qkD hF h.2.1 h.2.2]
 rfl
theorem qvL {g:List (qFa)}(hg:Gr g):((ordR (ordL g)).2=0∨0<(ordR (ordL g)).2∧(ordR (ordL g)).2≤100)∧(∀ x∈(ordR (ordL g)).1,0≤x∧x<1000)∧(ordR (ordL g)).1.length≤1000:=by
 cases h:ordL g with
 | none=>exact ⟨by decide,by simp[ordR],by simp[ordR]⟩
 | some o =>
  have ho:=(qne hg _ _ _ (qA0 g) h).1
  have h1:=hg.1
  have h2:=ho.len
  refine ⟨.inl rfl,qz0 ho.lt h1,by show (iz o).length≤_;rw[qdH];omega⟩
theorem qpH {g:List (qFa)}{l:Int}{n:qFa}(hF:4000≤F)(hg:Gr g):qaS F g B l K n s=some (mayT (ordR (ordL g)) 4):=by
 unfold qaS
 rw[qvi hF,if_neg (by rw[yC.2 hg];decide)]
 simp only[qCa]
 have h:=qvL hg
 rw[qkD (by omega) h.2.1 h.2.2]
 rfl
def oneT (s L:qFa)(a:Int):Int×qFa:=if a<L.length then (0,dcI (gD L a.toNat)) else (3,s)
theorem qrl {g:List (qFa)}{l:Int}(hF:4000≤F)(hg:Gr g)(h0:0≤a):kL F g B l K [a] s=some (oneT s (spartL g) a):=by
 have hp:=qg0 hg
 have h1:=hg.1
 unfold kL oneT
 rw[show idx [a] (0:Int)=some a from rfl]
 simp only[qCa]
 rw[known1 (by omega),hp.len]
 simp only[qCa]
 by_cases ha:a<g.length
 ·rw[decide_eq_true ha,if_neg (by simp),if_pos ha,quO hF]
  simp only[qCa]
  unfold spartM
  rw[if_neg (by rw[yC.2 hg];decide)]
  obtain ⟨i,rfl⟩:=qCd h0
  have hi:i<g.length:=by omega
  have:=hp.le i hi
  rw[qk,qgD (by rw[hp.len];exact hi)]
  simp only[qCa]
  rw[qoc (by omega)]
  rfl
 ·rw[decide_eq_false ha,if_pos (by simp),if_neg ha]
theorem qri {g:List (qFa)}{l:Int}(hF:4000≤F)(hg:Gr g)(h0:0≤a):∃ c,IsCore g c∧kK F g B l K [a] s=if a<g.length then (itoaC (c a.toNat:Int)).bind fun x=>some (0,x) else some (3,s):=by
 have h1:=hg.1
 obtain ⟨c,hc,hn⟩:=qrS (F:=F) (by omega) hg
 refine ⟨c,hc,?_⟩
 unfold kK
 rw[show idx [a] (0:Int)=some a from rfl]
 simp only[qCa]
 rw[known1 (by omega)]
 simp only[qCa]
 by_cases ha:a<g.length
 ·rw[decide_eq_true ha,if_neg (by simp),if_pos ha,hn]
  simp only[qCa]
  obtain ⟨i,rfl⟩:=qCd h0
  rw[qk,qwu (by omega),qCf]
  rfl
 ·rw[decide_eq_false ha,if_pos (by simp),if_neg ha]
theorem qn7 {g:List (qFa)}{l:Int}{n:qFa}(hF:200000≤F)(hg:Gr g):∃ t,itoaC ((th g).length:Int)=some t∧t.length≤2000000∧qak F g B l K n s=some (0,t):=by
 have:=qxU hg
 obtain ⟨x,hx,hl⟩:=qjx (v:=((th g).length:Int)) (by omega)
 refine ⟨x,hx,hl,?_⟩
 unfold qak
 rw[qvf hF hg]
 simp only[qCa]
 rw[hx]
 rfl
def farT (g:List (qFa))(a b:Nat):qFa:=if gD (farL g a) b<0 then [110,111,110,101] else dcI (gD (farL g a) b)
end Go.Proofs.YthibchijlpflmaaGreatDoor
