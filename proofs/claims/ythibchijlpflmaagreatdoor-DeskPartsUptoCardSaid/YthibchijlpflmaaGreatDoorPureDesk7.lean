/- Plain facts of what the functions of this seat compute. -/
import Derived.Test.YthibchijlpflmaaGreatDoorModels
import Derived.KernelRfl
import Derived.Lib.SlicesCompact
import Derived.Lib.SplitLaws
open BitVec renaming ofNat→qCW, ofInt→qC8, allOnes→qDV, toNat_ofNat→qDZ
open Bool renaming false_eq_true→qCF, not_true→qDl, or_eq_true→qDN, not_eq_true→qE6
open Classical renaming byContradiction→qEr
open Int renaming eq_ofNat_of_zero_le→qCp, toNat_natCast→qCs, natCast_nonneg→qET
open List renaming getElem?_eq_getElem→qCn, replicate→qCo, mem_of_getElem?→qCq, mem_append→qCr, length_append→qCt, mem_cons→qCu, append_assoc→qCv, drop_eq_getElem_cons→qCw, getElem?_eq_some_iff→qCx, length_take→qCA, drop_eq_nil_of_le→qCB, mem_cons_self→qCC, mem_cons_of_mem→qCD, getElem_mem→qCG, length_cons→qCH, mem_singleton→qCI, range→qCL, nil_append→qCM, length_drop→qCP, mem_map→qCV, length_map→qCX, drop_zero→qCY, take_of_length_le→qCZ, append_nil→qC0, pairwise_cons→qC1, length_replicate→qC3, pairwise_iff_getElem→qC4, map_cons→qC5, getElem?_eq_none→qC7, ext_getElem?→qDb, ext_getElem→qDe, take_append_drop→qDo, cons_append→qDt, getElem?_map→qDv, nodup_cons→qDw, mem_filter→qDy, getElem?_of_mem→qDz, mem_range→qDA, getElem?_set→qDB, pairwise_append→qDE, map_congr_left→qDG, map_map→qDH, take_length→qDI, take_left'→qD0, getElem?_cons_succ→qEc, pairwise_map→qEg, getD→qEj, filter_cons→qEl, mem_iff_getElem→qEn, getElem?_range→qEL, drop_drop→qFd
open List.Pairwise renaming nil→qEW
open List.Perm renaming eq_of_pairwise→qDO
open Nat renaming le_refl→qCE, pow_le_pow_right→qDd, le_trans→qDf, mod_eq_of_lt→qDr, exists_eq_succ_of_ne_zero→qDS, div_le_self→qD2, add_assoc→qD3, pow_pos→qD7, add_comm→qD9, min_eq_left→qEe, lt_of_lt_of_le→qEs, eq_zero_or_pos→qEu, pow_succ'→qEy, div_mul_le_self→qEM, div_eq_of_lt→qE3, pow_succ→qE4, pow_add→qFj
open Option renaming bind_some→qCm, map_some→qDk
open Option.some renaming injEq→qCy
namespace Go.Proofs.YthibchijlpflmaaGreatDoor
open Go SX
variable {F:Nat} {rec68:(List (Int×Int)×qFm×Int)→Option (List (Int×Int)×qFm)} {l:qFm} {lea0:Int} {o:List (Int×Int)} {rest:qFm} {i:Int}
def byt (l:qFm)(k:Nat):Int :=
 l.getD (8*k) 0*128+l.getD (8*k+1) 0*64+l.getD (8*k+2) 0*32+l.getD (8*k+3) 0*16+l.getD (8*k+4) 0*8+l.getD (8*k+5) 0*4+l.getD (8*k+6) 0*2+l.getD (8*k+7) 0
def pk (l:qFm):qFm:=(qCL ((l.length+7)/8)).map (byt l)
def Bit (l:qFm):Prop:=∀ x∈l,x=0∨x=1
theorem Bit.getD (h:Bit l)(i:Nat):l.getD i 0=0∨l.getD i 0=1:=by
 by_cases hi:i<l.length
 ·have:=h l[i] (qCG hi)
  simp_all
 simp_all
theorem quz (l:qFm)(x:Int)(i:Nat):(l++[x]).getD i 0=if i=l.length then x else l.getD i 0:=by
 grind
theorem qj8 (h:Bit l)(k:Nat):0≤byt l k∧byt l k<256:=by
 have h0:=h.getD (8*k);have h1:=h.getD (8*k+1);have h2:=h.getD (8*k+2);have h3:=h.getD (8*k+3)
 have h4:=h.getD (8*k+4);have h5:=h.getD (8*k+5);have h6:=h.getD (8*k+6);have h7:=h.getD (8*k+7)
 unfold byt
 omega
variable {B K q:Int}{r:Int×Int}{R:List (Int×Int)}{T:List (qFm)}{op0:List Nat}{a clk clk0 k s t w x y:Nat}{pt0:Nat→Int}{cm cm0:Nat→Nat}{S:Nat→Prop}{b d p xs:qFm}
theorem qlp {x:Int}(h:k≠l.length/8):byt (l++[x]) k=byt l k:=by
 grind [byt]
theorem qpN {x:Int}:byt (l++[x]) (l.length/8)=byt l (l.length/8)+x*2^(7-l.length%8):=by
 obtain ⟨k,hk⟩:∃ k,k=l.length/8:=⟨_,rfl⟩
 obtain ⟨r,hr⟩:∃ r,r=l.length%8:=⟨_,rfl⟩
 have hl:l.length=8*k+r:=by omega
 have hr8:r<8:=by omega
 rw[← hk,← hr]
 unfold byt
 simp only[quz,hl]
 grind
theorem irem8 (n:Nat):irem (n:Int) 8=((n%8:Nat):Int):=by
 rfl
theorem iquo8 {n:Nat}(h:n≤9223372036854775807):iquo .i64 (n:Int) 8=((n/8:Nat):Int):=by
 grind [iquo,yA]
theorem qsQ:byt l (l.length/8)%2^(8-l.length%8)=0:=by
 obtain ⟨k,hk⟩:∃ k,k=l.length/8:=⟨_,rfl⟩
 obtain ⟨r,hr⟩:∃ r,r=l.length%8:=⟨_,rfl⟩
 have hl:l.length=8*k+r:=by omega
 have hr8:r<8:=by omega
 rw[← hk,← hr]
 unfold byt
 grind
theorem qyw (h:l.length%8=0):byt l (l.length/8)=0:=by
 grind [byt]
theorem qqd (k:IntKind)(a b:Int):ior k a b=ior k b a:=by grind [ior]
def room (l:qFm):qFm:=(qCL (l.length/8+1)).map (byt l)
theorem qtL (hl:Bit l){x:Int}(hx:x=0∨x=1)(hn:l.length≤1000000):y9 F (l.length:Int) x (room l)=some (((l.length+1:Nat):Int),pk (l++[x])):=by
 unfold y9
 rw[iquo8 (by omega),irem8]
 have hg:(room l)[l.length/8]?=some (byt l (l.length/8)):=by simp[room]
 rw[qj,hg]
 simp only[qCm]
 have hc:decide ((0:Int)≤((l.length%8:Nat):Int))=true:=decide_eq_true (by omega)
 rw[hc]
 simp only[chk,if_true,lett,qCs]
 have hb:=qj8 hl (l.length/8)
 have hr8:l.length%8<8:=Nat.mod_lt _ (by decide)
 have e1:ishl .u64 x 7=x*128:=by
  have:=qlI (a:=x) (m:=7) (by decide)
  grind
 have e2:iconv .u8 (x*128)=x*128:=qzY (by omega) (by omega)
 have e3:ishr .u8 (x*128) ((l.length%8:Nat):Int)=x*2^(7-l.length%8):=by
  rw[qib (by grind [IntKind.bits])]
  have key:∀ r:Fin 8,((0:Int)*128/2^r.val=0*2^(7-r.val))∧((1:Int)*128/2^r.val=1*2^(7-r.val)):=by decide
  have:=key ⟨l.length%8,hr8⟩
  grind
 have key2:∀ r:Fin 8,(1:Int)≤2^(7-r.val)∧(2:Int)^(8-r.val)=2*2^(7-r.val)∧(2:Int)^(7-r.val)≤128∧(256:Int)%2^(8-r.val)=0∧(2:Int)^(8-r.val)≤256:=by decide
 have hk2:=key2 ⟨l.length%8,hr8⟩
 simp only at hk2
 have hat:=qpN (l:=l) (x:=x)
 have hb2:Bit (l++[x]):=by
  intro y hy
  rcases qCr.1 hy with h | h
  ·exact hl y h
  simp_all
 have hbb:=qj8 hb2 (l.length/8)
 have e4:ior .u8 (byt l (l.length/8)) (x*2^(7-l.length%8))=byt (l++[x]) (l.length/8):=by
  rw[qqd,qte (m:=8-l.length%8) ?_ ?_ hb.1 qsQ rfl ?_]
  ·omega
  ·grind
  ·grind
  grind [IntKind.bits]
 rw[e1,e2,e3,e4,zl (by omega) (by omega)]
 congr 2
 unfold room pk
 have hlen:((l++[x]).length+7)/8=l.length/8+1:=by grind
 rw[hlen]
 apply qDb
 grind [qlp]
theorem qvu (hl:Bit l){x:Int}(hx:x=0∨x=1)(hn:l.length≤1000000):jr F (l.length:Int) (pk l) x=some (((l.length+1:Nat):Int),pk (l++[x])):=by
 unfold jr
 rw[irem8]
 by_cases h:l.length%8=0
 ·have h1:((((l.length%8:Nat):Int):Int) == 0)=true:=by grind
  simp only[h1,if_true]
  rw[ko (by simp[pk];omega)]
  simp only[qCm]
  have:pk l++[0]=room l:=by
   grind [pk,room,List.range_succ,qyw]
  grind [qtL]
 ·have h1:((((l.length%8:Nat):Int):Int) == 0)=false:=by grind
  simp only[h1,qCF,if_false]
  have:pk l=room l:=by
   grind [pk,room]
  grind [qtL]
def bitAt (b:qFm)(i:Nat):Int:=b.getD (i/8) 0/2^(7-i%8)%2
def bl (b:qFm)(n:Nat):qFm:=(qCL n).map (bitAt b)
theorem qj7 (b:qFm)(i:Nat):bitAt b i=0∨bitAt b i=1:=by unfold bitAt;omega
theorem qrn (b:qFm)(n:Nat):Bit (bl b n):=by
 intro x hx
 obtain ⟨i,_,rfl⟩:=qCV.1 hx
 exact qj7 b i
theorem qhf (b:qFm)(n:Nat):(bl b n).length=n:=by simp[bl]
def U8s (l:qFm):Prop:=∀ n∈l,0≤n∧n<256
theorem qvq {n:Int}(hb:U8s b){i:Nat}(hi:i/8<b.length)(hm:i≤1000000):qbm F n b (i:Int)=some (bitAt b i):=by
 unfold qbm
 rw[iquo8 (by omega),irem8,qj]
 have hg:b[i/8]?=some b[i/8]:=by simp
 rw[hg]
 simp only[qCm]
 have e1:isub .i64 7 ((i%8:Nat):Int)=((7-i%8:Nat):Int):=by grind [zK]
 rw[e1]
 have hc:decide ((0:Int)≤((7-i%8:Nat):Int))=true:=decide_eq_true (by omega)
 rw[hc]
 simp only[chk,if_true,lett]
 have hx:=hb b[i/8] (qCG hi)
 rw[qib (by grind [IntKind.bits])]
 have hp:(1:Int)≤2^(7-i%8):=by
  have key:∀ r:Fin 8,(1:Int)≤2^(7-r.val):=by decide
  exact key ⟨i%8,Nat.mod_lt _ (by decide)⟩
 have h1:0≤b[i/8]/2^(7-i%8):=Int.ediv_nonneg hx.1 (by omega)
 have h2:b[i/8]/2^(7-i%8)≤b[i/8]:=Int.ediv_le_self _ hx.1
 have e2:iconv .u64 (b[i/8]/2^(7-i%8))=b[i/8]/2^(7-i%8):=jO h1 (by omega)
 rw[e2]
 have e3:=qia (k:=.u64) (a:=b[i/8]/2^(7-i%8)) (m:=1) h1 (by grind [IntKind.bits]) (by decide) rfl
 rw[show ((2^1-1:Nat):Int)=1 from rfl,show (2:Int)^1=2 from rfl] at e3
 grind [bitAt]
theorem qqt {F:Nat}{n:Int}{b:qFm}(hb:U8s b){yy:(Int×qFm)→Int→Option ((Int×qFm) ⊕ Empty)}(hy:∀ (l:qFm) x,Bit l→(x=0∨x=1)→l.length≤100000→yy ((l.length:Int),pk l) x=some (.inl (((l.length+1:Nat):Int),pk (l++[x])))){to:Nat}(ht:to≤8*b.length)(hm:to≤10000) :
  ∀ (k i:Nat) (l:qFm),to<k+i→i≤to→Bit l→l.length+(to-i)≤100000 →
   yT F yy (to:Int) n b k ((i:Int),((l.length:Int),pk l))=some (.inl (((l.length+(to-i):Nat):Int),pk (l++(bl b to).drop i)))
 | 0,i,l,h,hi,_,_=>by omega
 | k+1,i,l,h,hi,hl,hc=>by
  have hstep:yT F yy (to:Int) n b (k+1) ((i:Int),((l.length:Int),pk l))=qaw F yy (to:Int) n b (yT F yy (to:Int) n b k) (i:Int) ((l.length:Int),pk l):=rfl
  rw[hstep]
  unfold qaw
  by_cases hlt:i<to
  ·have h1:(i:Int)<(to:Int):=by omega
   simp only[h1,decide_true,if_true]
   rw[qvq hb (by omega) (by omega)]
   simp only[qCm]
   have hx:=qj7 b i
   rw[hy l _ hl hx (by omega)]
   simp only[qCm,Sum.elim_inl]
   rw[zl (by omega) (by omega),show (i:Int)+1=((i+1:Nat):Int) from by omega]
   have hl2:Bit (l++[bitAt b i]):=by
    intro y hy2
    rcases qCr.1 hy2 with h | h
    ·exact hl y h
    simp_all
   have:=qqt (F:=F) (n:=n) hb hy ht hm k (i+1) (l++[bitAt b i]) (by omega) (by omega) hl2 (by grind)
   grind [bl,qCw]
  ·have h1:¬ (i:Int)<(to:Int):=by omega
   simp only[h1,decide_false,qCF,if_false]
   grind [qhf]
structure Ok (n:Nat) (b:qFm):Prop where
 max:n≤8192
 len:b.length=(n+7)/8
 low:n%8≠0→b.getD (n/8) 0%2^(8-n%8)=0
theorem qyt {n i:Nat}:(bl b n).getD i 0=if i<n then bitAt b i else 0:=by
 grind [bl]
theorem bits8 {x:Int}(h0:0≤x)(h1:x<256):x/128%2*128+x/64%2*64+x/32%2*32+x/16%2*16+x/8%2*8+x/4%2*4+x/2%2*2+x/1%2=x:=by omega
theorem qsK (b:qFm)(k:Nat):bitAt b (8*k)=b.getD k 0/128%2∧bitAt b (8*k+1)=b.getD k 0/64%2∧bitAt b (8*k+2)=b.getD k 0/32%2∧bitAt b (8*k+3)=b.getD k 0/16%2 ∧
  bitAt b (8*k+4)=b.getD k 0/8%2∧bitAt b (8*k+5)=b.getD k 0/4%2∧bitAt b (8*k+6)=b.getD k 0/2%2∧bitAt b (8*k+7)=b.getD k 0/1%2:=by
 unfold bitAt
 rw[show 8*k/8=k from by omega,show (8*k+1)/8=k from by omega,show (8*k+2)/8=k from by omega,show (8*k+3)/8=k from by omega,show (8*k+4)/8=k from by omega,show (8*k+5)/8=k from by omega,show (8*k+6)/8=k from by omega,show (8*k+7)/8=k from by omega,
  show 8*k%8=0 from by omega,show (8*k+1)%8=1 from by omega,show (8*k+2)%8=2 from by omega,show (8*k+3)%8=3 from by omega,show (8*k+4)%8=4 from by omega,show (8*k+5)%8=5 from by omega,show (8*k+6)%8=6 from by omega,show (8*k+7)%8=7 from by omega]
 omega
theorem qAP {n:Nat}(hb:U8s b)(h:Ok n b)(hk:k<(n+7)/8):byt (bl b n) k=b.getD k 0:=by
 have hx:0≤b.getD k 0∧b.getD k 0<256:=by
  have hlt:k<b.length:=by rw[h.len];exact hk
  have:=hb b[k] (qCG hlt)
  simpa[qEj,hlt] using this
 obtain ⟨c0,c1,c2,c3,c4,c5,c6,c7⟩:=qsK b k
 unfold byt
 simp only[qyt]
 rw[c0,c1,c2,c3,c4,c5,c6,c7]
 by_cases hf:8*k+8≤n
 ·rw[if_pos (by omega),if_pos (by omega),if_pos (by omega),if_pos (by omega),if_pos (by omega),if_pos (by omega),if_pos (by omega),if_pos (by omega)]
  exact bits8 hx.1 hx.2
 ·have hkn:n/8=k:=by omega
  obtain ⟨r,hr⟩:∃ r,r=n%8:=⟨_,rfl⟩
  have hn:n=8*k+r:=by omega
  have hlow:=h.low (by omega)
  rw[hkn,← hr] at hlow
  generalize b.getD k 0=x at hx hlow
  rcases (by omega:r=1∨r=2∨r=3∨r=4∨r=5∨r=6∨r=7) with rfl | rfl | rfl | rfl | rfl | rfl | rfl
  ·rw[if_pos (by omega),if_neg (by omega),if_neg (by omega),if_neg (by omega),if_neg (by omega),if_neg (by omega),if_neg (by omega),if_neg (by omega)]
   rw[show (2:Int)^(8-1)=128 from by decide] at hlow
   omega
  ·rw[if_pos (by omega),if_pos (by omega),if_neg (by omega),if_neg (by omega),if_neg (by omega),if_neg (by omega),if_neg (by omega),if_neg (by omega)]
   rw[show (2:Int)^(8-2)=64 from by decide] at hlow
   omega
  ·rw[if_pos (by omega),if_pos (by omega),if_pos (by omega),if_neg (by omega),if_neg (by omega),if_neg (by omega),if_neg (by omega),if_neg (by omega)]
   rw[show (2:Int)^(8-3)=32 from by decide] at hlow
   omega
  ·rw[if_pos (by omega),if_pos (by omega),if_pos (by omega),if_pos (by omega),if_neg (by omega),if_neg (by omega),if_neg (by omega),if_neg (by omega)]
   rw[show (2:Int)^(8-4)=16 from by decide] at hlow
   omega
  ·rw[if_pos (by omega),if_pos (by omega),if_pos (by omega),if_pos (by omega),if_pos (by omega),if_neg (by omega),if_neg (by omega),if_neg (by omega)]
   rw[show (2:Int)^(8-5)=8 from by decide] at hlow
   omega
  ·rw[if_pos (by omega),if_pos (by omega),if_pos (by omega),if_pos (by omega),if_pos (by omega),if_pos (by omega),if_neg (by omega),if_neg (by omega)]
   rw[show (2:Int)^(8-6)=4 from by decide] at hlow
   omega
  ·rw[if_pos (by omega),if_pos (by omega),if_pos (by omega),if_pos (by omega),if_pos (by omega),if_pos (by omega),if_pos (by omega),if_neg (by omega)]
   rw[show (2:Int)^(8-7)=2 from by decide] at hlow
   omega
theorem qwU {n:Nat}(hb:U8s b)(h:Ok n b):pk (bl b n)=b:=by
 unfold pk
 rw[qhf]
 apply qDb
 intro k
 by_cases hk:k<(n+7)/8
 ·rw[qDv,qEL hk]
  simp only[qDk]
  rw[qAP hb h hk]
  have hlt:k<b.length:=by rw[h.len];omega
  simp_all
 ·rw[qC7 (by grind),qC7 (by rw[h.len];omega)]
def chkOf (n:Int)(b:qFm):Int :=
 if n<0∨8192<n then 3 else if (b.length:Int)≠(n+7)/8 then 1 else if n%8≠0∧b.getD (n.toNat/8) 0%2^(8-n.toNat%8)≠0 then 1 else 0
theorem qvB {n:Int}(h:chkOf n b=0):∃ m:Nat,n=m∧Ok m b:=by
 unfold chkOf at h
 split at h
 ·omega
 ·rename_i h1
  split at h
  ·omega
  ·rename_i h2
   split at h
   ·omega
   ·rename_i h3
    obtain ⟨m,rfl⟩:=qCp (show 0≤n by omega)
    refine ⟨m,rfl,by omega,by omega,fun hm=>?_⟩
    grind
theorem qlq {n:Int}(hb:U8s b)(h1:-9223372036854775808≤n)(h2:n<9223372036854775808)(hm:b.length≤9223372036854775807):qcg F n b=some (chkOf n b):=by
 unfold qcg chkOf
 by_cases c1:n<0∨8192<n
 ·have:(decide (n<0) || decide (8192<n))=true:=by simpa using c1
  rw[if_pos this,if_pos c1]
 ·have:(decide (n<0) || decide (8192<n))=false:=by simpa using c1
  rw[this,if_neg c1]
  simp only[qCF,if_false]
  obtain ⟨m,rfl⟩:=qCp (show 0≤n by omega)
  have e1:iquo .i64 (iadd .i64 (m:Int) 7) 8=((m:Int)+7)/8:=by
   rw[zl (by omega) (by omega),show (m:Int)+7=((m+7:Nat):Int) from by omega,iquo8 (by omega)]
   omega
  rw[e1,irem8]
  by_cases c2:(b.length:Int)≠((m:Int)+7)/8
  ·have:((b.length:Int) != ((m:Int)+7)/8)=true:=by simpa using c2
   rw[if_pos this,if_pos c2]
  ·have:((b.length:Int) != ((m:Int)+7)/8)=false:=by simpa using c2
   rw[this,if_neg c2]
   simp only[qCF,if_false]
   by_cases c3:m%8=0
   ·have:((((m%8:Nat):Int)) != 0)=false:=by simp[c3]
    have hn:¬ ((m:Int)%8≠0∧b.getD ((m:Int).toNat/8) 0%2^(8-(m:Int).toNat%8)≠0):=fun h=>h.1 (by omega)
    rw[this,if_neg hn]
    simp[qaR]
   ·have:((((m%8:Nat):Int)) != 0)=true:=by simp;omega
    rw[this]
    simp only[if_true]
    have hlen:b.length=m/8+1:=by omega
    have e2:isub .i64 (b.length:Int) 1=((m/8:Nat):Int):=by rw[zK (by omega) (by omega)];omega
    have hg:b[m/8]?=some b[m/8]:=by simp[hlen]
    rw[e2,qj,hg]
    simp only[qCm]
    have hc:decide ((0:Int)≤((m%8:Nat):Int))=true:=decide_eq_true (by omega)
    rw[hc]
    simp only[chk,if_true]
    have hx:=hb b[m/8] (qCG (by omega))
    have hgd:b.getD (m/8) 0=b[m/8]:=by simp[qEj,hg]
    rw[qCs,hgd]
    generalize b[m/8]=x at hx
    have e3:(ishl .u8 x ((m%8:Nat):Int) != 0)=decide (x%2^(8-m%8)≠0):=by
     have key:ishl .u8 x ((m%8:Nat):Int)=(x*2^(m%8))%256:=by
      unfold ishl
      have h:min (((m%8:Nat):Int).toNat) (IntKind.bits .u8)=m%8:=by simp[IntKind.bits];omega
      rw[h,qq8]
     rw[key]
     rcases (by omega:m%8=1∨m%8=2∨m%8=3∨m%8=4∨m%8=5∨m%8=6∨m%8=7) with h | h | h | h | h | h | h <;> rw[h]
     ·rw[show (2:Int)^1=2 from rfl,show (2:Int)^(8-1)=128 from by decide];by_cases hz:x%128=0 <;> simp[hz] <;> omega
     ·rw[show (2:Int)^2=4 from rfl,show (2:Int)^(8-2)=64 from by decide];by_cases hz:x%64=0 <;> simp[hz] <;> omega
     ·rw[show (2:Int)^3=8 from rfl,show (2:Int)^(8-3)=32 from by decide];by_cases hz:x%32=0 <;> simp[hz] <;> omega
     ·rw[show (2:Int)^4=16 from by decide];try rw[show (2:Int)^(8-4)=16 from by decide]
      by_cases hz:x%16=0 <;> simp[hz] <;> omega
     ·rw[show (2:Int)^5=32 from by decide,show (2:Int)^(8-5)=8 from by decide];by_cases hz:x%8=0 <;> simp[hz] <;> omega
     ·rw[show (2:Int)^6=64 from by decide,show (2:Int)^(8-6)=4 from by decide];by_cases hz:x%4=0 <;> simp[hz] <;> omega
     ·rw[show (2:Int)^7=128 from by decide,show (2:Int)^(8-7)=2 from by decide];by_cases hz:x%2=0 <;> simp[hz] <;> omega
    rw[e3]
    unfold qaR
    by_cases hz:x%2^(8-m%8)=0
    ·rw[if_neg (by simp[hz]),if_neg (by simp[hz])]
    ·rw[if_pos (by simp[hz]),if_pos ⟨by omega,hz⟩]
theorem qvD {x:qFm}(h:x.length≤1000000):yW F x=some x:=by
 grind [yW,ko]
theorem qwM {n:Int}(h:b.length≤1000000):qfy F n b=some (n,b):=by
 grind [qfy,qvD]
theorem qoc (hF:20000≤F){n m:Nat}{a:qFm}(ha:U8s a)(hb:U8s b)(oa:Ok n a)(ob:Ok m b):qap F n a m b=some (((n+m:Nat):Int),pk (bl a n++bl b m)):=by
 unfold qap
 have hal:a.length≤1000000:=by rw[oa.len];have:=oa.max;omega
 rw[qwM hal]
 simp only[qCm,qgk,qeU]
 have hm:=ob.max
 have hn:=oa.max
 have:=qqt (F:=F) (n:=(m:Int)) hb (yy:=fun (p:Int×qFm) (x53:Int)=>qc8 F p.1 p.2 x53) (fun l x hl hx hlen=>by
  grind [qc8,qvu]) (to:=m) (by rw[ob.len];omega) (by omega) F 0 (bl a n) (by omega) (by omega) (qrn a n) (by rw[qhf];omega)
 rw[qhf,qwU ha oa,qCY,Nat.sub_zero] at this
 simp_all
def I64 (n:Int):Prop:=-9223372036854775808≤n∧n<9223372036854775808
theorem qts (hk:k<(l.length+7)/8):(pk l).getD k 0=byt l k:=by
 grind [pk]
theorem qiA (h:Bit l):U8s (pk l):=by
 intro x hx
 obtain ⟨k,_,rfl⟩:=qCV.1 hx
 exact qj8 h k
theorem qkl (l:qFm):(pk l).length=(l.length+7)/8:=by simp[pk]
theorem qlR (hm:l.length≤8192):Ok l.length (pk l) where
 max:=hm
 len:=qkl l
 low:=fun h=>by
  grind [qts,qsQ]
theorem qpJ (h:Bit l){i:Nat}(hi:i<l.length):bitAt (pk l) i=l.getD i 0:=by
 obtain ⟨k,hk⟩:∃ k,k=i/8:=⟨_,rfl⟩
 obtain ⟨r,hr⟩:∃ r,r=i%8:=⟨_,rfl⟩
 have hl:i=8*k+r:=by omega
 have hr8:r<8:=by omega
 obtain ⟨c0,c1,c2,c3,c4,c5,c6,c7⟩:=qsK (pk l) k
 have hb:(pk l).getD k 0=byt l k:=qts (by omega)
 rw[hb] at c0 c1 c2 c3 c4 c5 c6 c7
 have hbd:∀ q,0≤l.getD q 0∧l.getD q 0≤1:=fun q=>by have:=h.getD q;omega
 have h0:=hbd (8*k);have h1:=hbd (8*k+1);have h2:=hbd (8*k+2);have h3:=hbd (8*k+3)
 have h4:=hbd (8*k+4);have h5:=hbd (8*k+5);have h6:=hbd (8*k+6);have h7:=hbd (8*k+7)
 clear hbd hb
 unfold byt at c0 c1 c2 c3 c4 c5 c6 c7
 rcases (by omega:r=0∨r=1∨r=2∨r=3∨r=4∨r=5∨r=6∨r=7) with rfl | rfl | rfl | rfl | rfl | rfl | rfl | rfl
 ·rw[hl,Nat.add_zero,c0];clear c0 c1 c2 c3 c4 c5 c6 c7;generalize l.getD (8*k) 0=y0 at *;generalize l.getD (8*k+1) 0=y1 at *;generalize l.getD (8*k+2) 0=y2 at *;generalize l.getD (8*k+3) 0=y3 at *;generalize l.getD (8*k+4) 0=y4 at *;generalize l.getD (8*k+5) 0=y5 at *;generalize l.getD (8*k+6) 0=y6 at *;generalize l.getD (8*k+7) 0=y7 at *;clear h hi hl hr hk hr8;omega
 ·rw[hl,c1];clear c0 c1 c2 c3 c4 c5 c6 c7;generalize l.getD (8*k) 0=y0 at *;generalize l.getD (8*k+1) 0=y1 at *;generalize l.getD (8*k+2) 0=y2 at *;generalize l.getD (8*k+3) 0=y3 at *;generalize l.getD (8*k+4) 0=y4 at *;generalize l.getD (8*k+5) 0=y5 at *;generalize l.getD (8*k+6) 0=y6 at *;generalize l.getD (8*k+7) 0=y7 at *;clear h hi hl hr hk hr8;omega
 ·rw[hl,c2];clear c0 c1 c2 c3 c4 c5 c6 c7;generalize l.getD (8*k) 0=y0 at *;generalize l.getD (8*k+1) 0=y1 at *;generalize l.getD (8*k+2) 0=y2 at *;generalize l.getD (8*k+3) 0=y3 at *;generalize l.getD (8*k+4) 0=y4 at *;generalize l.getD (8*k+5) 0=y5 at *;generalize l.getD (8*k+6) 0=y6 at *;generalize l.getD (8*k+7) 0=y7 at *;clear h hi hl hr hk hr8;omega
 ·rw[hl,c3];clear c0 c1 c2 c3 c4 c5 c6 c7;generalize l.getD (8*k) 0=y0 at *;generalize l.getD (8*k+1) 0=y1 at *;generalize l.getD (8*k+2) 0=y2 at *;generalize l.getD (8*k+3) 0=y3 at *;generalize l.getD (8*k+4) 0=y4 at *;generalize l.getD (8*k+5) 0=y5 at *;generalize l.getD (8*k+6) 0=y6 at *;generalize l.getD (8*k+7) 0=y7 at *;clear h hi hl hr hk hr8;omega
 ·rw[hl,c4];clear c0 c1 c2 c3 c4 c5 c6 c7;generalize l.getD (8*k) 0=y0 at *;generalize l.getD (8*k+1) 0=y1 at *;generalize l.getD (8*k+2) 0=y2 at *;generalize l.getD (8*k+3) 0=y3 at *;generalize l.getD (8*k+4) 0=y4 at *;generalize l.getD (8*k+5) 0=y5 at *;generalize l.getD (8*k+6) 0=y6 at *;generalize l.getD (8*k+7) 0=y7 at *;clear h hi hl hr hk hr8;omega
 ·rw[hl,c5];clear c0 c1 c2 c3 c4 c5 c6 c7;generalize l.getD (8*k) 0=y0 at *;generalize l.getD (8*k+1) 0=y1 at *;generalize l.getD (8*k+2) 0=y2 at *;generalize l.getD (8*k+3) 0=y3 at *;generalize l.getD (8*k+4) 0=y4 at *;generalize l.getD (8*k+5) 0=y5 at *;generalize l.getD (8*k+6) 0=y6 at *;generalize l.getD (8*k+7) 0=y7 at *;clear h hi hl hr hk hr8;omega
 ·rw[hl,c6];clear c0 c1 c2 c3 c4 c5 c6 c7;generalize l.getD (8*k) 0=y0 at *;generalize l.getD (8*k+1) 0=y1 at *;generalize l.getD (8*k+2) 0=y2 at *;generalize l.getD (8*k+3) 0=y3 at *;generalize l.getD (8*k+4) 0=y4 at *;generalize l.getD (8*k+5) 0=y5 at *;generalize l.getD (8*k+6) 0=y6 at *;generalize l.getD (8*k+7) 0=y7 at *;clear h hi hl hr hk hr8;omega
 ·rw[hl,c7];clear c0 c1 c2 c3 c4 c5 c6 c7;generalize l.getD (8*k) 0=y0 at *;generalize l.getD (8*k+1) 0=y1 at *;generalize l.getD (8*k+2) 0=y2 at *;generalize l.getD (8*k+3) 0=y3 at *;generalize l.getD (8*k+4) 0=y4 at *;generalize l.getD (8*k+5) 0=y5 at *;generalize l.getD (8*k+6) 0=y6 at *;generalize l.getD (8*k+7) 0=y7 at *;clear h hi hl hr hk hr8;omega
theorem qhA (h:Bit l):bl (pk l) l.length=l:=by
 apply qDb
 grind [bl,qpJ]
theorem qpP {n:Nat}(h:Ok n b):chkOf (n:Int) b=0:=by
 unfold chkOf
 have:=h.max
 have:=h.len
 rw[if_neg (by omega),if_neg (by omega),if_neg]
 rintro ⟨h1,h2⟩
 rw[qCs] at h2
 exact h2 (h.low (by omega))
theorem qyu {n m:Nat}(h:n≤m):(bl b m).take n=bl b n:=by
 unfold bl
 rw[← List.map_take,List.take_range,qEe h]
theorem vt {k:qFm}(h:Bit l)(h2:Bit k):Bit (l++k):=by
 intro x hx
 rcases qCr.1 hx with h3 | h3
 ·exact h x h3
 ·exact h2 x h3
theorem two64:(2:Nat)^64=18446744073709551616:=by decide
theorem qoA {n:Nat}(hn:n<18446744073709551616):ishr .u64 (n:Int) (k:Int)=((n/2^k:Nat):Int):=by
 unfold ishr
 rw[Int.fdiv_eq_ediv_of_nonneg _ (by grind),qCs]
 simp only[IntKind.bits]
 by_cases h:k≤64
 ·simp_all
 ·rw[Nat.min_eq_right (by omega)]
  have h1:n/2^64=0:=qE3 (by omega)
  have h2:n/2^k=0:=qE3 (qEs hn (by rw[← two64];exact qDd (by decide) (by omega)))
  omega
theorem qyT {n:Nat}(hn:n<18446744073709551616):iand .u64 (n:Int) 1=((n%2:Nat):Int):=by
 have e:=qia (k:=.u64) (a:=(n:Int)) (m:=1) (by omega) (by grind [IntKind.bits]) (by decide) rfl
 simp_all
theorem qrL {n:Nat}(hk:k≤64):ishl .u64 (n:Int) (k:Int)=((n*2^k%18446744073709551616:Nat):Int):=by
 grind [qlI]
theorem qBY {b m:Nat}(ha:a<2^m)(hb:b%2^m=0)(h:a+b<18446744073709551616):ior .u64 (b:Int) (a:Int)=((b+a:Nat):Int):=by
 rw[qqd,qte (m:=m) (by omega) (by exact_mod_cast ha) (by omega) (by exact_mod_cast hb) rfl (by grind [IntKind.bits])]
 omega
theorem qcv {b:Nat}(h:a+b<9223372036854775808):iadd .i64 (a:Int) (b:Int)=((a+b:Nat):Int):=by grind [zl]
theorem qn (h:a+1<9223372036854775808):iadd .i64 (a:Int) 1=((a+1:Nat):Int):=by grind [zl]
theorem qrN {b:Nat}(h:b≤a)(h2:a<9223372036854775808):isub .i64 (a:Int) (b:Int)=((a-b:Nat):Int):=by grind [zK]
theorem qeA (h:1≤a)(h2:a<9223372036854775808):isub .i64 (a:Int) 1=((a-1:Nat):Int):=by grind [zK]
def nb (n:Nat):Nat→qFm
 | 0=>[]
 | w+1=>((n/2^w%2:Nat):Int)::nb n w
theorem qdL (n:Nat):∀ w,(nb n w).length=w
 | 0=>rfl
 | w+1=>by simp[nb,qdL n w]
theorem qlP (n:Nat):∀ w,Bit (nb n w)
 | 0=>by intro x hx;simp[nb] at hx
 | w+1=>by
  intro x hx
  rcases qCu.1 hx with rfl | h
  ·omega
  ·exact qlP n w x h
def bv (l:qFm):Nat:=l.foldl (fun n b=>2*n+b.toNat) 0
theorem qyv (l:qFm):∀ m,l.foldl (fun n b=>2*n+b.toNat) m=m*2^l.length+bv l:=by
 induction l with
 | nil=>intro m;simp[bv]
 | cons x l ih =>
  intro m
  show l.foldl _ _=_
  rw[ih]
  show _=_+l.foldl _ _
  grind
theorem qAN (l k:qFm):bv (l++k)=bv l*2^k.length+bv k:=by
 grind [bv,qyv]
theorem qod (x:Int)(l:qFm):bv (x::l)=x.toNat*2^l.length+bv l:=by
 have:=qAN [x] l
 simpa[bv] using this
theorem qsO (h:Bit l):bv l<2^l.length:=by
 induction l with
 | nil=>simp[bv]
 | cons x l ih =>
  have h1:=ih (fun y hy=>h y (qCD _ hy))
  rw[qod,qCH,qE4]
  rcases h x qCC with rfl | rfl
  ·simp;omega
  ·simp;omega
theorem qlo (n:Nat):∀ w,bv (nb n w)=n%2^w
 | 0=>by simp[nb,bv,Nat.mod_one]
 | w+1=>by
  rw[nb,qod,qdL,qlo n w,qCs,qE4,Nat.mod_mul,Nat.mul_comm,qD9]
theorem qwz (n a:Nat):∀ b,nb n (b+a)=nb (n/2^a) b++nb n a
 | 0=>by simp[nb]
 | b+1=>by
  rw[show b+1+a=(b+a)+1 from by omega,nb,qwz n a b,nb,qDt]
  congr 3
  grind [Nat.div_div_eq_div_mul]
theorem qy1 (n w:Nat):nb n (w+1)=nb (n/2) w++[((n%2:Nat):Int)]:=by
 have:=qwz n 1 w
 simpa[nb] using this
theorem qqk {F:Nat}{n:Nat}(hn:n<18446744073709551616):∀ (w k:Nat) (l:qFm),w<k→Bit l→l.length+w≤100000 →
  j4 F (n:Int) k ((w:Int)-1,(l.length:Int),pk l)=some (((l.length+w:Nat):Int),pk (l++nb n w))
 | _,0,_,h,_,_=>by omega
 | 0,k+1,l,_,_,_=>by
  show ya F (n:Int) _ (((0:Nat):Int)-1) (l.length:Int) (pk l)=_
  grind [ya,nb]
 | w+1,k+1,l,h,hl,hm=>by
  show ya F (n:Int) (j4 F (n:Int) k) (((w+1:Nat):Int)-1) (l.length:Int) (pk l)=_
  unfold ya
  rw[show ((w+1:Nat):Int)-1=(w:Int) from by omega,if_pos (by simp)]
  have hc:decide ((0:Int)≤(w:Int))=true:=decide_eq_true (by omega)
  rw[hc]
  simp only[chk,if_true]
  rw[qoA hn,qyT (by have:=qD2 n (2^w);omega)]
  have hx:((n/2^w%2:Nat):Int)=0∨((n/2^w%2:Nat):Int)=1:=by omega
  rw[qvu hl hx (by omega)]
  simp only[qCm]
  rw[zK (by omega) (by omega)]
  have:=qqk (F:=F) hn w k (l++[((n/2^w%2:Nat):Int)]) (by omega) (vt hl (by intro y hy;simp_all)) (by grind)
  rw[show (l++[((n/2^w%2:Nat):Int)]).length=l.length+1 from by simp] at this
  rw[this,qCv,show l.length+1+w=l.length+(w+1) from by omega]
  rfl
theorem quH {n:Nat}(hn:n<18446744073709551616)(hF:w<F)(hl:Bit l)(hm:l.length+w≤100000) :
  js F (l.length:Int) (pk l) (n:Int) (w:Int)=some (((l.length+w:Nat):Int),pk (l++nb n w)):=by
 unfold js
 rw[zK (by omega) (by omega)]
 grind [qqk]
theorem qAE {n m:Nat}(hn:n<18446744073709551616)(hF:w<F)(hb:U8s b)(ob:Ok m b)(hw:w≤10000) :
  vM F (m:Int) b (n:Int) (w:Int)=some (((m+w:Nat):Int),pk (bl b m++nb n w)):=by
 unfold vM
 have:=ob.max
 rw[qwM (by rw[ob.len];omega)]
 grind [quH,qrn,qhf,qwU]
def putOf (m:Int)(b:qFm)(n w:Int):Int :=
 if chkOf m b≠0 then chkOf m b else if w<0∨64<w∨2^w.toNat≤n then 3 else if 8192<m+w then 8 else 0
def pt (m:Int)(b:qFm)(n w:Int):Int×qFm×Int :=
 if putOf m b n w≠0 then (0,[],putOf m b n w) else (m+w,pk (bl b m.toNat++nb n.toNat w.toNat),0)
def U64 (n:Int):Prop:=0≤n∧n<18446744073709551616
theorem qAM {n i:Nat}(h:i<n):(bl b n)[i]?=some (bitAt b i):=by simp[bl,h]
theorem qw9 {F:Nat}{n:Int}{m a w:Nat}{b:qFm}(hb:U8s b)(hlen:m≤8*b.length)(hm:m≤10000)(ha:a+w≤m)(hw:w≤64):∀ (k i v:Nat),w<k+i→i≤w→v<2^i →
  qfx F n b (a:Int) (w:Int) k ((v:Int),(i:Int))=some (((v*2^(w-i)+bv (((bl b m).drop (a+i)).take (w-i)):Nat):Int),true)
 | 0,_,_,_,_,_=>by omega
 | k+1,i,v,h,hi,hv=>by
  show qfv F n b (a:Int) (w:Int) (qfx F n b (a:Int) (w:Int) k) (v:Int) (i:Int)=_
  unfold qfv
  by_cases hlt:i<w
  ·rw[if_pos (by simp_all),qcv (by omega),qvq hb (by omega) (by omega)]
   simp only[qCm]
   have hx:=qj7 b (a+i)
   have hv64:2*v+1<18446744073709551616:=by
    have:2^(i+1)≤2^64:=qDd (by decide) (by omega)
    omega
   obtain ⟨x,hxe⟩:∃ x:Nat,bitAt b (a+i)=(x:Int):=qCp (by omega)
   have hx1:x<2:=by omega
   have e1:ishl .u64 (v:Int) 1=((v*2:Nat):Int):=by
    have:=qrL (n:=v) (k:=1) (by decide)
    grind
   have e2:ior .u64 ((v*2:Nat):Int) (x:Int)=((v*2+x:Nat):Int):=qBY (m:=1) (by omega) (by omega) (by omega)
   rw[hxe,e1,e2,qn (by omega)]
   rw[qw9 hb hlen hm ha hw k (i+1) (v*2+x) (by omega) (by omega) (by omega)]
   have hd:((bl b m).drop (a+i)).take (w-i)=(x:Int)::((bl b m).drop (a+(i+1))).take (w-(i+1)):=by
    rw[qCw (by rw[qhf];omega),show w-i=(w-(i+1))+1 from by omega,List.take_succ_cons,show a+i+1=a+(i+1) from by omega]
    congr 1
    have:=qAM (b:=b) (n:=m) (i:=a+i) (by omega)
    grind
   rw[hd,qod,qCs]
   have hl:(((bl b m).drop (a+(i+1))).take (w-(i+1))).length=w-(i+1):=by simp[qhf];omega
   rw[hl,show w-i=(w-(i+1))+1 from by omega,qE4,Nat.add_mul]
   grind
  ·rw[if_neg (by simp_all)]
   rw[show w-i=0 from by omega]
   simp[qfw,bv]
theorem qzc {m:Nat}(hF:100≤F)(hb:U8s b)(ob:Ok m b)(ha:a≤m)(hw:w≤64) :
  jq F (m:Int) b (a:Int) (w:Int)=some (if a+w≤m then (((bv (((bl b m).drop a).take w):Nat):Int),true) else (0,false)):=by
 unfold jq
 have hmx:=ob.max
 rw[qrN ha (by omega)]
 by_cases h:a+w≤m
 ·rw[if_neg (by grind),if_pos h]
  have:=qw9 (F:=F) (n:=(m:Int)) (m:=m) (a:=a) (w:=w) hb (by rw[ob.len];omega) (by omega) h hw F 0 0 (by omega) (by omega) (by decide)
  simp_all
 grind
theorem qeO {n:Nat}(h:n<9223372036854775808):iconv .i64 (n:Int)=(n:Int):=yA (by omega) (by omega)
theorem vG {n:Nat}(h:n<18446744073709551616):iconv .u64 (n:Int)=(n:Int):=jO (by omega) (by omega)
theorem qBS (h:Bit l){i:Nat}(hi:i<l.length):∃ x:Nat,l[i]?=some (x:Int)∧x<2:=by
 have:=h l[i] (qCG hi)
 obtain ⟨x,hx⟩:=qCp (show 0≤l[i] by omega)
 grind
theorem qkP {α:Type}{l:List α}{i j:Nat}(h1:i≤j)(h2:j≤l.length):sub l (i:Int) (j:Int)=some ((l.take j).drop i):=by
 grind [sub]
theorem qhO (h:Bit l)(i:Nat):Bit (l.drop i):=fun x hx=>h x (List.mem_of_mem_drop hx)
theorem qjp (h:Bit l)(i:Nat):Bit (l.take i):=fun x hx=>h x (List.mem_of_mem_take hx)
theorem qlr {n:Int}(hb:U8s b):chkOf n b≠0∨∃ l:qFm,Bit l∧l.length≤8192∧n=(l.length:Int)∧b=pk l:=by
 by_cases h:chkOf n b=0
 ·obtain ⟨m,rfl,ob⟩:=qvB h
  exact .inr ⟨bl b m,qrn _ _,by rw[qhf];exact ob.max,by rw[qhf],(qwU hb ob).symm⟩
 omega
theorem qls (hm:l.length≤8192):chkOf (l.length:Int) (pk l)=0:=qpP (qlR hm)
theorem qtt (h:l.length≤8192):(pk l).length≤9223372036854775807:=by rw[qkl];omega
theorem qqs (h:l.length≤8192):(pk l).length≤2000:=by rw[qkl];omega
theorem qwV {k:qFm}(hl:Bit l)(hk:Bit k)(h:l.length=k.length)(e:pk l=pk k):l=k:=by
 grind [qhA]
def un (n:Nat):qFm:=qCo n 0++[1]
theorem qi7 (n:Nat):(un n).length=n+1:=by simp[un]
theorem qhe (n:Nat):Bit (qCo n 0):=by intro x hx;simp_all
theorem qsL:Bit [1]:=by intro x hx;simp_all
theorem qpf (n:Nat):Bit (un n):=vt (qhe n) qsL
theorem qBf (n:Nat):pk (qCo n 0)=qCo ((n+7)/8) 0:=by
 unfold pk
 rw[qC3]
 apply qDb
 grind [byt]
theorem qiV {n:Nat}(hn:n<18446744073709551616)(hF:w<F)(hl:Bit l)(hm:l.length≤8192)(hw:w≤10000) :
  vM F (l.length:Int) (pk l) (n:Int) (w:Int)=some (((l++nb n w).length:Int),pk (l++nb n w)):=by
 grind [qAE,qiA,qlR,qhA,qdL]
theorem qw6 {n:Nat}(hF:20000≤F)(hn:n<8192):qeM F (n:Int)=some (((un n).length:Int),pk (un n)):=by
 unfold qeM
 have e:iquo .u64 (iadd .u64 (n:Int) 7) 8=(((n+7)/8:Nat):Int):=by
  grind [iquo,iadd,jO]
 rw[e]
 have hmk:mk 140737488355328 (0:Int) (((n+7)/8:Nat):Int)=some (pk (qCo n 0)):=by
  unfold mk
  rw[if_pos (by omega),qCs,qBf]
 rw[hmk]
 simp only[qCm]
 rw[qeO (by omega)]
 have h:=qiV (F:=F) (n:=1) (w:=1) (l:=qCo n 0) (by decide) (by omega) (qhe n) (by grind) (by decide)
 rw[qC3] at h
 rw[show ((1:Nat):Int)=1 from rfl] at h
 rw[h]
 rfl
def fz:qFm→Option Nat
 | []=>none
 | x::l=>if x=1 then some 0 else (fz l).map (·+1)
theorem qz9 (n:Nat)(r:qFm):fz (un n++r)=some n:=by
 induction n with
 | zero=>rfl
 | succ n ih =>
  grind [un,fz]
theorem qz8 {n:Nat}(h:fz l=some n):n<l.length:=by
 induction l generalizing n with
 | nil=>simp[fz] at h
 | cons x l ih =>
  unfold fz at h
  split at h
  ·grind
  ·cases hf:fz l with
   | none=>simp_all
   | some m=>grind
theorem qpH {m:Int}(hl:Bit l)(hm:l.length≤90000){i:Nat}(hi:i<l.length):qbm F m (pk l) (i:Int)=some l[i]:=by
 grind [qvq,qiA,qkl,qpJ]
theorem qv6 {F:Nat}{l:qFm}(hl:Bit l)(hm:l.length≤8192)(a:Nat):∀ (k i:Nat),l.length<k+i→i≤l.length→a≤i →
  qfa F (l.length:Int) (pk l) (a:Int) k (i:Int)=some (match fz (l.drop i) with | none=>(0,0,false) | some n=>(((i-a+n:Nat):Int),((i+n+1:Nat):Int),true))
 | 0,_,_,_,_=>by omega
 | k+1,i,h,hi,ha=>by
  show qe9 F (l.length:Int) (pk l) (a:Int) (qfa F (l.length:Int) (pk l) (a:Int) k) (i:Int)=_
  unfold qe9
  by_cases hlt:i<l.length
  ·rw[if_pos (by simp_all),qpH hl (by omega) hlt,qCw hlt,fz]
   simp only[qCm]
   by_cases h1:l[i]=1
   ·grind [qrN,vG,qn]
   ·rw[if_neg (by grind),if_neg h1,qn (by omega),qv6 hl hm a k (i+1) (by omega) (by omega) (by omega)]
    grind
  ·rw[if_neg (by simp_all),qCB (by omega)]
   rfl
theorem qs7 (hF:20000≤F)(hl:Bit l)(hm:l.length≤8192)(ha:a≤l.length) :
  qdF F (l.length:Int) (pk l) (a:Int)=some (match fz (l.drop a) with | none=>(0,0,false) | some n=>((n:Int),((a+n+1:Nat):Int),true)):=by
 unfold qdF
 have:=qv6 (F:=F) hl hm a F a (by omega) ha (by omega)
 simp_all
def raOf (m:Int)(b:qFm)(a:Int):Int:=if chkOf m b≠0 then chkOf m b else if a<0∨m<a then 3 else 0
theorem qsM (hF:20000≤F){k:qFm}(hl:Bit l)(hk:Bit k)(h1:l.length≤8192)(h2:k.length≤8192) :
  qap F (l.length:Int) (pk l) (k.length:Int) (pk k)=some (((l++k).length:Int),pk (l++k)):=by
 grind [qoc,qiA,qlR,qhA]
def len (x:Nat):Nat:=if x=0 then 0 else x.log2+1
theorem qgF:len x≤k↔x<2^k:=by
 grind [len,Nat.log2_lt]
theorem qlN (h1:x<2^k)(h2:k=0∨2^(k-1)≤x):len x=k:=by
 have h3:=qgF.2 h1
 rcases h2 with rfl | h2
 ·omega
 ·by_cases h4:len x≤k-1
  ·have:=qgF.1 h4;omega
  ·omega
theorem qrR:x<2^len x:=qgF.1 (qCE _)
theorem qrQ (h:x≠0):2^(len x-1)≤x:=by
 have h1:1≤len x:=by grind [len]
 apply Nat.le_of_not_lt
 intro h2
 have:=qgF.2 h2
 omega
theorem qoD (h:x≠0):1≤len x:=by grind [len]
theorem qki (h:2^k≤x):len (x/2^k)+k=len x:=by
 have hp:0<2^k:=qD7 (by decide)
 have hx:x≠0:=by omega
 have hd:x/2^k≠0:=by
  simp_all
 symm
 apply qlN
 ·grind [qrR,Nat.div_lt_iff_lt_mul]
 ·right
  have h1:=qoD hd
  have:=qrQ hd
  rw[show len (x/2^k)+k-1=len (x/2^k)-1+k from by omega,qFj]
  grind [Nat.le_div_iff_mul_le]
theorem qyW:∀ x:Fin 256,∀ k:Fin 8,ve 0 ((x.val:Nat):Int) ((8*k.val:Nat):Int)=some ((len x.val+8*k.val:Nat):Int):=by decide +kernel
theorem qti (hx:x<256)(hk:k≤56)(h8:k%8=0):ve F (x:Int) (k:Int)=some ((len x+k:Nat):Int):=by
 have h:=qyW ⟨x,hx⟩ ⟨k/8,by omega⟩
 simp only at h
 rw[show 8*(k/8)=k from by omega] at h
 exact h
theorem qth (hx:x<65536)(hk:k≤48)(h8:k%8=0):vd F (x:Int) (k:Int)=some ((len x+k:Nat):Int):=by
 unfold vd
 by_cases h:256≤x
 ·have e:=qoA (n:=x) (k:=8) (by omega)
  rw[show ((8:Nat):Int)=8 from rfl] at e
  have e2:iadd .i64 (k:Int) 8=((k+8:Nat):Int):=by grind [zl]
  rw[if_pos (by grind),e,e2,qti (by omega) (by omega) (by omega),← qki (x:=x) (k:=8) (by omega)]
  grind
 grind [qti]
theorem qtg (hx:x<4294967296)(hk:k≤32)(h8:k%8=0):vb F (x:Int) (k:Int)=some ((len x+k:Nat):Int):=by
 unfold vb
 by_cases h:65536≤x
 ·have e:=qoA (n:=x) (k:=16) (by omega)
  rw[show ((16:Nat):Int)=16 from rfl] at e
  have e2:iadd .i64 (k:Int) 16=((k+16:Nat):Int):=by grind [zl]
  rw[if_pos (by grind),e,e2,qth (by omega) (by omega) (by omega),← qki (x:=x) (k:=16) (by omega)]
  grind
 grind [qth]
theorem qlM (hx:x<18446744073709551616):vo F (x:Int)=some ((len x:Nat):Int):=by
 unfold vo
 by_cases h:4294967296≤x
 ·have e:=qoA (n:=x) (k:=32) (by omega)
  rw[show ((32:Nat):Int)=32 from rfl] at e
  have:=qtg (F:=F) (x:=x/2^32) (k:=32) (by omega) (by omega) (by omega)
  rw[show ((32:Nat):Int)=32 from rfl] at this
  rw[if_pos (by grind),e,this,qki (x:=x) (k:=32) (by omega)]
 ·have:=qtg (F:=F) (x:=x) (k:=0) (by omega) (by omega) (by omega)
  grind
def lg (n:Nat):Nat:=len (n+1)-1
theorem qAe {n:Nat}:2^lg n≤n+1:=qrQ (by omega)
theorem qAf {n:Nat}:n+1<2^(lg n+1):=by
 grind [lg,qrR]
theorem quD {n:Nat}(h1:2^k≤n+1)(h2:n+1<2^(k+1)):lg n=k:=by
 grind [qlN,lg]
theorem qgW {n:Nat}(h:n≤1099511627776):lg n≤40:=by
 have:len (n+1)≤41:=qgF.2 (by omega)
 unfold lg;omega
theorem qB1 {n:Nat}(h:n+1<18446744073709551616):lg n≤63:=by
 have:len (n+1)≤64:=qgF.2 (by omega)
 unfold lg;omega
theorem qze {n:Nat}(h:n+1<18446744073709551616):qfe F (n:Int)=some ((lg n:Nat):Int):=by
 unfold qfe
 have e:iadd .u64 (n:Int) 1=((n+1:Nat):Int):=by grind [iadd,jO]
 rw[e,qlM (by omega)]
 simp only[qCm]
 have h1:=qoD (x:=n+1) (by omega)
 have h2:len (n+1)≤64:=qgF.2 (by omega)
 rw[qeA h1 (by omega)]
 rfl
theorem pow64 (h:k≤63):2^k≤9223372036854775808:=by
 have:=qDd (show 0<2 by decide) h
 omega
theorem qkt (h:k≤63):ishl .u64 1 (k:Int)=((2^k:Nat):Int):=by
 have:=qrL (n:=1) (k:=k) (by omega)
 rw[show ((1:Nat):Int)=1 from rfl] at this
 have hp:=pow64 h
 omega
theorem qmn {b:Nat}(h:b≤a)(h2:a<18446744073709551616):isub .u64 (a:Int) (b:Int)=((a-b:Nat):Int):=by
 grind [isub,jO]
theorem qk8 (h:1≤a)(h2:a<18446744073709551616):isub .u64 (a:Int) 1=((a-1:Nat):Int):=by
 grind [isub,jO]
theorem qsw {b:Nat}(h2:a+b<18446744073709551616):iadd .u64 (a:Int) (b:Int)=((a+b:Nat):Int):=by
 grind [iadd,jO]
theorem qpe (h2:a+1<18446744073709551616):iadd .u64 (a:Int) 1=((a+1:Nat):Int):=by
 grind [iadd,jO]
theorem qA3 {n:Nat}(hn:n<18446744073709551616)(hk:k≤63):qf4 F (n:Int) (k:Int)=some ((n%2^k:Nat):Int):=by
 unfold qf4
 have hp:=pow64 hk
 have hp0:0<2^k:=qD7 (by decide)
 have hc:decide ((0:Int)≤(k:Int))=true:=decide_eq_true (by omega)
 rw[hc]
 simp only[chk,if_true,lett]
 rw[qkt hk,qk8 (by omega) (by omega)]
 have e:=qia (k:=.u64) (a:=(n:Int)) (m:=k) (by omega) (by grind [IntKind.bits]) (by grind [IntKind.bits]) rfl
 simp_all
theorem qwA {n:Nat}(h:w≤k):nb (n%2^k) w=nb n w:=by
 induction w with
 | zero=>rfl
 | succ w ih =>
  rw[nb,nb,ih (by omega)]
  congr 2
  have hp:2^k=2^w*2^(k-w):=by rw[← qFj];grind
  rw[hp,Nat.mod_mul_right_div_self]
  have hp2:2^(k-w)=2*2^(k-w-1):=by rw[← qEy];grind
  simp_all
def ga (n:Nat):qFm:=un (lg n)++nb (n+1) (lg n)
theorem qi0 (n:Nat):Bit (ga n):=vt (qpf _) (qlP _ _)
theorem qos (n:Nat):(ga n).length=2*lg n+1:=by grind [ga,qi7,qdL]
theorem qkJ {n:Nat}(hF:20000≤F)(hn:n+1<18446744073709551616):j9 F (n:Int)=some (((ga n).length:Int),pk (ga n)):=by
 unfold j9
 have h63:=qB1 hn
 rw[qze hn]
 simp only[qCm]
 rw[vG (by omega),qw6 hF (by omega)]
 simp only[qCm]
 rw[qpe hn,qA3 hn h63]
 simp only[qCm]
 have hlt:(n+1)%2^lg n<18446744073709551616:=by have:=Nat.mod_le (n+1) (2^lg n);omega
 rw[qiV hlt (by omega) (qpf _) (by rw[qi7];omega) (by omega),qwA (qCE _)]
 rfl
def numOf (l:qFm)(k a:Nat):Int×Int×Int :=
 if 64≤k then (0,0,3) else if l.length<a+k then (0,0,7) else if 1099511627776<bv ((l.drop a).take k)+2^k-1 then (0,0,3) else (((bv ((l.drop a).take k)+2^k-1:Nat):Int),((a+k:Nat):Int),0)
def fg (l:qFm)(a:Nat):Int×Int×Int:=match fz (l.drop a) with | none=>(0,0,7) | some k=>numOf l k (a+k+1)
theorem qho (hF:100≤F)(hl:Bit l)(hm:l.length≤8192)(ha:a≤l.length)(hw:w≤64) :
  jq F (l.length:Int) (pk l) (a:Int) (w:Int)=some (if a+w≤l.length then (((bv ((l.drop a).take w):Nat):Int),true) else (0,false)):=by
 grind [qzc,qiA,qlR,qhA]
theorem qv2:(fg l a).2.2≠0∨∃ n q:Nat,fg l a=((n:Int),(q:Int),0)∧n≤1099511627776∧q≤l.length:=by
 unfold fg
 cases hf:fz (l.drop a) with
 | none=>simp
 | some k =>
  simp only
  unfold numOf
  by_cases h1:64≤k
  ·simp_all
  ·rw[if_neg h1]
   by_cases h2:l.length<a+k+1+k
   ·simp_all
   ·rw[if_neg h2]
    by_cases h3:1099511627776<bv ((l.drop (a+k+1)).take k)+2^k-1
    ·simp_all
    ·right;rw[if_neg h3];exact ⟨_,_,rfl,by omega,by omega⟩
theorem qrY (hF:20000≤F)(hl:Bit l)(hm:l.length≤8192)(ha:a≤l.length) :
  (if decide ((64:Int)≤(k:Int)) then some ((0:Int),(0:Int),(3:Int)) else ((jq F (l.length:Int) (pk l) (a:Int) (iconv .i64 (k:Int))).bind fun x10=>(if (!x10.2) then some (0,0,7) else (chk (decide ((0:Int)≤(k:Int))) ((lett (iadd .u64 x10.1 (isub .u64 (ishl .u64 1 (k:Int)) 1)) fun x16=>(if (decide (1099511627776<x16)) then some (0,0,3) else some (x16,iadd .i64 (a:Int) (iconv .i64 (k:Int)),0))))))))=some (numOf l k a):=by
 unfold numOf
 by_cases h1:64≤k
 ·grind
 ·rw[if_neg (by grind),if_neg h1,qeO (by omega),qho (by omega) hl hm ha (by omega)]
  simp only[qCm]
  by_cases h2:a+k≤l.length
  ·rw[if_pos h2,if_neg (show ¬ l.length<a+k by omega)]
   have hc:decide ((0:Int)≤(k:Int))=true:=decide_eq_true (by omega)
   simp only[qDl,qCF,if_false,hc,chk,if_true,lett]
   have hb:=qsO (qjp (qhO hl a) k)
   rw[qCA,qCP,qEe (by omega)] at hb
   have hp:=pow64 (k:=k) (by omega)
   have hp0:0<2^k:=qD7 (by decide)
   rw[qkt (by omega),qk8 (by omega) (by omega),qsw (by omega),qcv (by omega),show bv ((l.drop a).take k)+(2^k-1)=bv ((l.drop a).take k)+2^k-1 from by omega]
   grind
  grind
theorem qjy (hF:20000≤F)(hl:Bit l)(hm:l.length≤8192)(ha:a≤l.length):jC F (l.length:Int) (pk l) (a:Int)=some (fg l a):=by
 unfold jC kF qcu
 rw[qs7 hF hl hm ha]
 unfold fg
 cases hf:fz (l.drop a) with
 | none=>rfl
 | some k =>
  have hk:=qz8 hf
  rw[qCP] at hk
  simp only[qCm,qDl,qCF,if_false,bne_self_eq_false]
  rw[qrY hF hl hm (by omega)]
  rfl
def rd (f:qFm→Nat→Int×Int×Int)(m:Int)(b:qFm)(a:Int):Int×Int×Int:=if raOf m b a≠0 then (0,0,raOf m b a) else f (bl b m.toNat) a.toNat
theorem qwE {n:Nat}(hn:n≤1099511627776)(p r:qFm):numOf (p++nb (n+1) (lg n)++r) (lg n) p.length=((n:Int),((p.length+lg n:Nat):Int),0):=by
 have h40:=qgW hn
 have h1:=qAe (n:=n)
 have h2:=qAf (n:=n)
 have hp0:0<2^lg n:=qD7 (by decide)
 have hbv:bv (((p++nb (n+1) (lg n)++r).drop p.length).take (lg n))=n+1-2^lg n:=by
  rw[qCv,List.drop_left,qD0 (qdL _ _),qlo]
  rw[qE4] at h2
  rw[Nat.mod_eq_sub_mod h1,qDr (by omega)]
 grind [numOf,qdL]
theorem qBU {n:Nat}(hn:n≤1099511627776)(p r:qFm):fg (p++ga n++r) p.length=((n:Int),((p.length+(ga n).length:Nat):Int),0):=by
 unfold fg
 have h0:(p++ga n++r).drop p.length=un (lg n)++(nb (n+1) (lg n)++r):=by
  grind [ga]
 grind [qz9,qwE,qi7,qos]
def sh (m:Nat):Nat:=len (m-1)
def dd (m:Nat):Nat:=2^sh m-m
theorem qAn {m:Nat}(h:1≤m):m≤2^sh m:=by grind [qrR,sh]
theorem qtS {m:Nat}(h:m≤9223372036854775808):sh m≤63:=qgF.2 (by omega)
theorem qB9 {m:Nat}(h:2≤m):1≤sh m∧2^(sh m-1)<m:=by
 grind [qoD,qrQ,sh]
theorem qCj:sh 1=0:=rfl
theorem qka {m:Nat}(h:1≤m):m+dd m=2^sh m:=by grind [qAn,dd]
theorem qpX {m:Nat}(h:1≤m)(hd:0<dd m):1≤sh m∧dd m<2^(sh m-1):=by
 by_cases h2:2≤m
 ·obtain ⟨h3,h4⟩:=qB9 h2
  have h5:=qka h
  have h6:2^sh m=2*2^(sh m-1):=by rw[← qEy];simp_all
  omega
 ·obtain rfl:m=1:=by omega
  simp[dd,qCj] at hd
theorem qh3 {m:Nat}(h:1≤m)(h2:m≤9223372036854775808):qb4 F (m:Int)=some ((sh m:Int),(dd m:Int)):=by
 unfold qb4
 have h63:=qtS h2
 have hl:=qAn h
 rw[qk8 h (by omega),qlM (by omega)]
 simp only[qCm]
 have hc:decide ((0:Int)≤((len (m-1):Nat):Int))=true:=decide_eq_true (by omega)
 rw[hc]
 simp only[chk,if_true]
 have hp:=pow64 h63
 have e:=qkt h63
 unfold sh at e hl hp
 rw[e,qmn hl (by omega)]
 rfl
def le (n m:Nat):qFm:=if n<dd m then nb n (sh m-1) else nb (n+dd m) (sh m)
theorem qA2 (n m:Nat):Bit (le n m):=by grind [le,qlP]
theorem qwp (n m:Nat):(le n m).length=if n<dd m then sh m-1 else sh m:=by grind [le,qdL]
theorem qpG {n m:Nat}(hF:20000≤F)(hl:Bit l)(hlm:l.length≤8192)(hm:m≤9223372036854775808)(hn:n<m) :
  qbD F (l.length:Int) (pk l) (n:Int) (m:Int)=some (((l++le n m).length:Int),pk (l++le n m)):=by
 unfold qbD le
 have h63:=qtS hm
 have ha:=qka (m:=m) (by omega)
 have hp:=pow64 h63
 rw[qh3 (by omega) hm]
 simp only[qCm]
 by_cases h:n<dd m
 ·obtain ⟨h1,h2⟩:=qpX (m:=m) (by omega) (by omega)
  grind [qeA,qiV]
 ·rw[if_neg (by simp_all),if_neg h,qsw (by omega),qiV (by omega) (by omega) hl hlm (by omega)]
  rfl
def flR (l:qFm)(a m:Nat):Option (Nat×Nat):=if a+sh m≤l.length then some (bv ((l.drop a).take (sh m))-dd m,a+sh m) else none
def flOf (l:qFm)(a m:Nat):Option (Nat×Nat) :=
 if 0<dd m then (if a+(sh m-1)≤l.length then (if bv ((l.drop a).take (sh m-1))<dd m then some (bv ((l.drop a).take (sh m-1)),a+(sh m-1)) else flR l a m) else none) else flR l a m
theorem qpb (hl:Bit l)(hs:1≤s)(h:a+s≤l.length):∃ x,x<2∧bv ((l.drop a).take s)=2*bv ((l.drop a).take (s-1))+x:=by
 obtain ⟨x,hx,hx2⟩:=qBS (qhO hl a) (i:=s-1) (by grind)
 refine ⟨x,hx2,?_⟩
 have:(l.drop a).take s=(l.drop a).take (s-1)++[(x:Int)]:=by
  have h1:s=(s-1)+1:=by omega
  grind [List.take_add_one]
 grind [bv]
theorem qz7 (hl:Bit l){m n q:Nat}(hm:1≤m)(h:flOf l a m=some (n,q)):n<m∧q≤l.length:=by
 have hR:flR l a m=some (n,q)→n<m∧q≤l.length:=by
  intro h
  unfold flR at h
  grind [qsO,qjp,qhO,qCA,qka]
 unfold flOf at h
 split at h
 ·rename_i h0
  split at h
  ·split at h
   ·simp only[qCy,Prod.mk.injEq] at h
    have h1:=qpX hm h0
    have h2:=qka hm
    have h6:2^sh m=2*2^(sh m-1):=by rw[← qEy];simp_all
    omega
   simp_all
  simp_all
 simp_all
theorem qop {m:Nat}(hF:20000≤F)(hl:Bit l)(hlm:l.length≤8192)(ha:a≤l.length)(hm1:1≤m)(hm:m≤9223372036854775808) :
  match flOf l a m with
  | none=>∃ x y,zY F (l.length:Int) (pk l) (a:Int) (m:Int)=some (x,y,false)
  | some p=>zY F (l.length:Int) (pk l) (a:Int) (m:Int)=some ((p.1:Int),(p.2:Int),true):=by
 have h63:=qtS hm
 have hadd:=qka hm1
 have hp:=pow64 h63
 have hj1:(0<dd m→¬ bv ((l.drop a).take (sh m-1))<dd m)→match flR l a m with
   | none=>∃ x y,kv F (l.length:Int) (pk l) (a:Int) ((sh m:Int),(dd m:Int))=some (x,y,false)
   | some p=>kv F (l.length:Int) (pk l) (a:Int) ((sh m:Int),(dd m:Int))=some ((p.1:Int),(p.2:Int),true):=by
  intro hge
  unfold flR kv
  simp only
  rw[qho (by omega) hl hlm ha (by omega)]
  simp only[qCm]
  by_cases h:a+sh m≤l.length
  ·rw[if_pos h,if_pos h]
   simp only
   have hb:=qsO (qjp (qhO hl a) (sh m))
   rw[qCA,qCP,qEe (by omega)] at hb
   grind [qpb,qmn,qcv]
  ·rw[if_neg h,if_neg h]
   simp
 by_cases h0:0<dd m
 ·obtain ⟨h1,h2⟩:=qpX hm1 h0
  by_cases h3:a+(sh m-1)≤l.length
  ·by_cases h4:bv ((l.drop a).take (sh m-1))<dd m
   ·have e:flOf l a m=some (bv ((l.drop a).take (sh m-1)),a+(sh m-1)):=by grind [flOf]
    rw[e]
    unfold zY
    rw[qh3 hm1 hm]
    simp only[qCm]
    rw[if_pos (by simp_all),qeA h1 (by omega),qho (by omega) hl hlm ha (by omega),if_pos h3]
    simp only[qCm,qDl,qCF,if_false]
    rw[if_pos (by simp_all),qcv (by omega),qeA (by omega) (by omega),show a+sh m-1=a+(sh m-1) from by omega]
   ·have e:flOf l a m=flR l a m:=by grind [flOf]
    have e2:zY F (l.length:Int) (pk l) (a:Int) (m:Int)=kv F (l.length:Int) (pk l) (a:Int) ((sh m:Int),(dd m:Int)):=by
     unfold zY
     rw[qh3 hm1 hm]
     simp only[qCm]
     rw[if_pos (by simp_all),qeA h1 (by omega),qho (by omega) hl hlm ha (by omega),if_pos h3]
     grind
    simp_all
  ·have e:flOf l a m=none:=by grind [flOf]
   rw[e]
   unfold zY
   rw[qh3 hm1 hm]
   simp only[qCm]
   rw[if_pos (by simp_all),qeA h1 (by omega),qho (by omega) hl hlm ha (by omega),if_neg h3]
   simp
 grind [flOf,zY,qh3]
theorem qBV {n m:Nat}(hn:n<m)(p r:qFm):flOf (p++le n m++r) p.length m=some (n,p.length+(le n m).length):=by
 have hd:(p++le n m++r).drop p.length=le n m++r:=by simp
 have hll:=qwp n m
 have hadd:=qka (m:=m) (by omega)
 have hL:(p++le n m++r).length=p.length+(le n m).length+r.length:=by grind
 unfold flOf flR
 rw[hd,hL,hll]
 by_cases h:n<dd m
 ·obtain ⟨h1,h2⟩:=qpX (m:=m) (by omega) (by omega)
  have e:bv ((le n m++r).take (sh m-1))=n:=by
   unfold le
   rw[if_pos h,qD0 (qdL _ _),qlo,qDr (by omega)]
  grind
 ·have e:bv ((le n m++r).take (sh m))=n+dd m:=by
   unfold le
   rw[if_neg h,qD0 (qdL _ _),qlo,qDr (by omega)]
  rw[if_neg h]
  by_cases h0:0<dd m
  ·obtain ⟨h1,h2⟩:=qpX (m:=m) (by omega) h0
   have e2:bv ((le n m++r).take (sh m-1))=(n+dd m)/2:=by
    unfold le
    rw[if_neg h]
    have hs:nb (n+dd m) (sh m)=nb ((n+dd m)/2) (sh m-1)++[((((n+dd m)%2:Nat)):Int)]:=by
     have:=qy1 (n+dd m) (sh m-1)
     simp_all
    have h6:2^sh m=2*2^(sh m-1):=by rw[← qEy];simp_all
    rw[hs,qCv,qD0 (qdL _ _),qlo,qDr (by omega)]
   grind
  simp_all
def ok3 (l:qFm):Int×qFm×Int:=((l.length:Int),pk l,0)
theorem qBB {b:Nat}(h:a*b<18446744073709551616):imul .u64 (a:Int) (b:Int)=((a*b:Nat):Int):=by
 grind [imul,jO]
def en (p:Option (Nat×Nat)):Int×Int×Int:=match p with
 | none=>(0,0,7)
 | some p=>if 1099511627776<p.1 then (0,0,3) else ((p.1:Int),(p.2:Int),0)
theorem quu {n q:Nat}:qdm F (n:Int) (q:Int) true=some (en (some (n,q))):=by
 grind [qdm,en]
def zh (n k:Nat):Nat:=lg n/k
def zf (n k:Nat):Nat:=2^(zh n k*k)
def zt (n k:Nat):Nat:=2^(zh n k*k+k)
def ze (n k:Nat):qFm:=un (zh n k)++le (n+1-zf n k) (zt n k-zf n k)
theorem qsF (n k:Nat):Bit (ze n k):=vt (qpf _) (qA2 _ _)
theorem qAv (n k:Nat):zf n k≤n+1:=by
 have h:zh n k*k≤lg n:=qEM _ _
 exact qDf (qDd (by decide) h) qAe
theorem qAx {n:Nat}(hk:1≤k):n+1<zt n k:=by
 have h:lg n+1≤zh n k*k+k:=by
  have:=Nat.lt_mul_div_succ (lg n) hk
  unfold zh
  grind
 exact qEs qAf (qDd (by decide) h)
theorem quc {n:Nat}(hn:n≤1099511627776)(hk2:k≤16):zh n k*k≤40∧zt n k≤72057594037927936:=by
 have h:zh n k*k≤lg n:=qEM _ _
 have h40:=qgW hn
 refine ⟨by omega,?_⟩
 have:zt n k≤2^56:=qDd (by decide) (by omega)
 omega
def Zk (k:Int):Prop:=1≤k∧k≤16
instance zkDec (k:Int):Decidable (Zk k):=inferInstanceAs (Decidable (_∧_))
theorem qBM {k:Int}(h:Zk k):∃ j:Nat,k=j∧1≤j∧j≤16:=by
 obtain ⟨j,rfl⟩:=qCp (show 0≤k by have:=h.1;omega)
 exact ⟨j,rfl,by have:=h.1;omega,by have:=h.2;omega⟩
theorem qzl {n:Nat}(hn:n≤1099511627776)(hk:1≤k)(hk2:k≤16):qeq F (n:Int) (k:Int)=some ((zh n k:Int),(zf n k:Int),(zt n k:Int)):=by
 unfold qeq
 obtain ⟨h40,h56⟩:=quc hn hk2
 have hlen:len (n+1)=lg n+1:=by rfl
 have hl40:=qgW hn
 have hzl:zh n k≤lg n:=qD2 _ _
 have hc0:((k:Int) != 0)=true:=by grind
 rw[qpe (by omega),qlM (by omega),hlen]
 simp only[qCm]
 rw[qeA (by omega) (by omega),Nat.add_sub_cancel]
 have e1:iquo .i64 (lg n:Int) (k:Int)=((zh n k:Nat):Int):=by
  grind [iquo,zh,yA]
 have e2:imul .i64 ((zh n k:Nat):Int) (k:Int)=((zh n k*k:Nat):Int):=by
  grind [imul,yA]
 rw[e1,e2,qcv (by omega),hc0]
 have c1:decide ((0:Int)≤((zh n k*k:Nat):Int))=true:=decide_eq_true (qET _)
 have c2:decide ((0:Int)≤((zh n k*k+k:Nat):Int))=true:=decide_eq_true (qET _)
 rw[c1,c2]
 simp only[chk,if_true]
 rw[qkt (by omega),qkt (by omega)]
 rfl
def gz (n k:Int):Int×qFm×Int:=if Zk k∧n≤1099511627776 then ok3 (ze n.toNat k.toNat) else (0,[],3)
theorem qAX {n k:Int}(h:¬ (Zk k∧n≤1099511627776)):gz n k=(0,[],3):=by grind [gz]
theorem qtd {n:Nat}(h:Zk k)(h2:n≤1099511627776):gz n k=ok3 (ze n k):=by grind [gz]
theorem qz0 (hF:20000≤F){n k:Int}(hn:U64 n):qep F n k=some (gz n k):=by
 unfold qep
 by_cases h:Zk k∧n≤1099511627776
 ·obtain ⟨n,rfl⟩:=qCp hn.1
  obtain ⟨k,rfl,h1,h2⟩:=qBM h.1
  have hn2:n≤1099511627776:=by omega
  have hl40:=qgW hn2
  have hzl:zh n k≤lg n:=qD2 _ _
  have a1:=qAv n k
  have a2:=qAx (n:=n) h1
  have a3:=(quc hn2 h2).2
  rw[if_neg (by grind),qzl hn2 h1 h2,qtd h.1 hn2]
  simp only[qCm]
  rw[vG (by omega),qw6 hF (by omega),qpe (by omega),qmn a1 (by omega),qmn (by omega) (by omega)]
  simp only[qCm]
  rw[qpG hF (qpf _) (by rw[qi7];omega) (by omega) (by omega)]
  rfl
 grind [Zk,qAX]
def zq (k:Nat)(l:qFm)(i:Nat):Int×Int×Int:=match fz (l.drop i) with
 | none=>(0,0,7)
 | some h=>if 41≤h*k then (0,0,3) else en ((flOf l (i+h+1) (2^(h*k+k)-2^(h*k))).map fun p=>(2^(h*k)+p.1-1,p.2))
theorem qtx (hk:1≤k):2*2^a≤2^(a+k):=by
 rw[← qEy];exact qDd (by decide) (by omega)
theorem qwY (h:a≤56):2^a≤72057594037927936:=by
 have:2^a≤2^56:=qDd (by decide) h
 omega
theorem qp6 {i:Nat}(hF:20000≤F)(hl:Bit l)(hlm:l.length≤8192)(hi:i≤l.length)(h1:1≤k)(h2:k≤16):qbC F (l.length:Int) (pk l) (i:Int) (k:Int)=some (zq k l i):=by
 unfold qbC
 rw[qs7 hF hl hlm hi]
 unfold zq
 cases hz:fz (l.drop i) with
 | none=>rfl
 | some h =>
  have hq:=qz8 hz
  rw[qCP] at hq
  have hmul:h*k≤8192*16:=Nat.mul_le_mul (by omega) h2
  simp only[qCm,qDl,qCF,if_false]
  rw[vG (by omega),qBB (by omega),qeO (by omega)]
  by_cases h3:41≤h*k
  ·grind
  ·rw[if_neg (by grind),if_neg h3]
   have e2:imul .i64 (h:Int) (k:Int)=((h*k:Nat):Int):=by
    grind [imul,yA]
   have c1:decide ((0:Int)≤((h*k:Nat):Int))=true:=decide_eq_true (qET _)
   have c2:decide ((0:Int)≤(k:Int))=true:=decide_eq_true (by omega)
   rw[e2,c1,c2]
   simp only[chk,if_true,lett]
   have p1:=qwY (a:=h*k) (by omega)
   have p2:=qwY (a:=h*k+k) (by omega)
   have p3:=qtx (a:=h*k) h1
   have p0:0<2^(h*k):=qD7 (by decide)
   rw[qkt (by omega),qrL (by omega),← qFj,qDr (by omega),qmn (by omega) (by omega)]
   have:=qop (a:=i+h+1) (m:=2^(h*k+k)-2^(h*k)) hF hl hlm (by omega) (by omega) (by omega)
   cases hf:flOf l (i+h+1) (2^(h*k+k)-2^(h*k)) with
   | none =>
    rw[hf] at this
    obtain ⟨x,y,e⟩:=this
    rw[e];rfl
   | some p =>
    rw[hf] at this
    simp only at this
    have hp:=qz7 hl (n:=p.1) (q:=p.2) (by omega) hf
    rw[this]
    simp only[qCm]
    rw[qsw (by omega),qk8 (by omega) (by omega),quu]
    rfl
theorem qAa {n:Nat}(hn:n≤1099511627776):(ga n).length≤81:=by grind [qos,qgW]
theorem qwq {n m:Nat}(hm:m≤9223372036854775808):(le n m).length≤63:=by
 grind [qwp,qtS]
theorem qBL {n:Nat}(hn:n≤1099511627776)(hk2:k≤16):(ze n k).length≤200:=by
 have hzl:zh n k≤lg n:=qD2 _ _
 have hl40:=qgW (n:=n) (by omega)
 have a3:=(quc (n:=n) (by omega) hk2).2
 grind [qwq,ze,qi7]
def foldOf (x:Int):Int:=if x<0 then 2*(-(x+1))+1 else 2*x
theorem qpm {x:Int}(h1:-9223372036854775808≤x)(h2:x<0):IntKind.wrap .u64 x=x+18446744073709551616:=by
 rw[qjZ];omega
theorem qyj (n:Nat)(h:n<18446744073709551616):ixor .u64 (n:Int) 18446744073709551615=18446744073709551615-(n:Int):=by
 unfold ixor
 have h1:(qC8 (IntKind.bits .u64) (n:Int))=qCW 64 n:=by rfl
 have h2:(qC8 (IntKind.bits .u64) (18446744073709551615:Int))=qDV 64:=by rfl
 rw[h1,h2]
 have h3:(qCW 64 n ^^^ qDV 64) = ~~~ (qCW 64 n):=BitVec.xor_allOnes
 have h4:(qCW 64 n ^^^ qDV 64).toNat=18446744073709551615-n:=by
  rw[h3,BitVec.toNat_not,qDZ]
  omega
 show IntKind.wrap .u64 ((qCW 64 n ^^^ qDV 64).toNat:Int)=_
 rw[h4,jO (by omega) (by omega)]
 omega
theorem qsD (n:Nat)(h:n<18446744073709551616):ixor .u64 (n:Int) 0=(n:Int):=by
 grind [ixor,qC8,IntKind.bits,qCW,jO]
theorem qsB (n:Nat)(h:n<9223372036854775808):ixor .i64 (n:Int) (-1)=-(n:Int)-1:=by
 unfold ixor
 have h1:(qC8 (IntKind.bits .i64) (n:Int))=qCW 64 n:=by rfl
 have h2:(qC8 (IntKind.bits .i64) (-1:Int))=qDV 64:=by rfl
 rw[h1,h2]
 have h3:(qCW 64 n ^^^ qDV 64) = ~~~ (qCW 64 n):=BitVec.xor_allOnes
 have h4:(qCW 64 n ^^^ qDV 64).toNat=18446744073709551615-n:=by
  grind
 show IntKind.wrap .i64 ((qCW 64 n ^^^ qDV 64).toNat:Int)=_
 grind [IntKind.wrap,IntKind.bits,IntKind.signed]
theorem qsC (n:Nat)(h:n<9223372036854775808):ixor .i64 (n:Int) 0=(n:Int):=by
 unfold ixor
 have h1:(qC8 (IntKind.bits .i64) (n:Int))=qCW 64 n:=by rfl
 have h2:(qC8 (IntKind.bits .i64) (0:Int))=0#64:=by rfl
 rw[h1,h2]
 show IntKind.wrap .i64 ((qCW 64 n ^^^ 0#64).toNat:Int)=_
 rw[BitVec.xor_zero,qDZ,qDr (by omega),yA (by omega) (by omega)]
theorem qs5 (F:Nat){x:Int}(h1:-9223372036854775808≤x)(h2:x<9223372036854775808):qcD F x=some (foldOf x):=by
 unfold qcD lett foldOf
 have hs:ishr .i64 x 63=x/9223372036854775808:=by
  have:=qib (k:=.i64) (a:=x) (m:=63) (by decide)
  simp_all
 have hl:∀ y:Int,ishl .u64 y 1=(y*2)%18446744073709551616:=fun y=>qlI (a:=y) (m:=1) (by decide)
 rw[hs,hl]
 by_cases hx:x<0
 ·rw[if_pos hx,show x/9223372036854775808=-1 from by omega]
  have e1:iconv .u64 x=x+18446744073709551616:=qpm h1 hx
  have e2:iconv .u64 (-1)=18446744073709551615:=by decide
  rw[e1,e2,show (x+18446744073709551616)*2%18446744073709551616=(((2*x+18446744073709551616).toNat:Nat):Int) from by omega,qyj _ (by omega)]
  grind
 ·rw[if_neg hx,show x/9223372036854775808=0 from by omega]
  have e1:iconv .u64 x=x:=jO (by omega) (by omega)
  have e2:iconv .u64 0=0:=by decide
  rw[e1,e2,show x*2%18446744073709551616=((2*x).toNat:Int) from by omega,qsD _ (by omega)]
  grind
def kZ (n:Int):Int:=if n%2=0 then n/2 else -(n/2)-1
theorem qnC (F:Nat){n:Int}(h1:0≤n)(h2:n<18446744073709551616):qbf F n=some (kZ n):=by
 unfold qbf lett kZ
 have hs:ishr .u64 n 1=n/2:=by
  have:=qib (k:=.u64) (a:=n) (m:=1) (by decide)
  simp_all
 have ha:iand .u64 n 1=n%2:=by
  have:=qia (k:=.u64) (a:=n) (m:=1) h1 (by grind [IntKind.bits]) (by decide) rfl
  simp_all
 have e1:iconv .i64 (n/2)=n/2:=yA (by omega) (by omega)
 have e2:iconv .i64 (n%2)=n%2:=yA (by omega) (by omega)
 rw[hs,ha,e1,e2]
 by_cases h:n%2=0
 ·rw[if_pos h,h,show isub .i64 0 0=0 from by decide,show n/2=((n/2).toNat:Int) from by omega,qsC _ (by omega)]
 ·rw[if_neg h,show n%2=1 from by omega,show isub .i64 0 1=-1 from by decide,show n/2=((n/2).toNat:Int) from by omega,qsB _ (by omega)]
theorem qkQ (x:Int):kZ (foldOf x)=x:=by
 grind [kZ,foldOf]
theorem qoI {x:Int}:qeK F x=some (decide (0≤x∧x≤1048576)):=by
 unfold qeK
 simp
def gk:Int→qFm→Int
 | _,[]=>0
 | last,n::l=>if 0≤n∧n≤1048576 then (if n≤last then 4 else gk n l) else 3
def gkc (l:qFm):Int:=if 300<l.length then 2 else gk (-1) l
theorem qp8 {F:Nat}{l:qFm}(hm:l.length≤300):∀ (k i:Nat) (last:Int),l.length<k+i→i≤l.length →
  qe1 F l k (last,(i:Int))=some (gk last (l.drop i))
 | 0,_,_,_,_=>by omega
 | k+1,i,last,h,hi=>by
  show qe0 F l (qe1 F l k) last (i:Int)=_
  unfold qe0
  by_cases hlt:i<l.length
  ·rw[if_pos (by simp_all),qj,qCn hlt,qCw hlt,gk]
   simp only[qCm]
   rw[qoI]
   simp only[qCm]
   by_cases h1:0≤l[i]∧l[i]≤1048576
   ·rw[decide_eq_true h1,if_pos h1,if_neg (by simp)]
    by_cases h2:l[i]≤last
    ·simp_all
    ·rw[if_neg h2,if_neg (by grind),qn (by omega)]
     exact qp8 hm k (i+1) _ (by omega) (by omega)
   grind
  ·rw[if_neg (by simp_all),qCB (by omega)]
   rfl
theorem qgU (hF:20000≤F):jD F l=some (gkc l):=by
 unfold jD gkc
 by_cases h:300<l.length
 ·grind
 ·rw[if_neg (by grind),if_neg h]
  exact qp8 (by omega) F 0 (-1) (by omega) (by omega)
def Ris:Int→qFm→Prop
 | _,[]=>True
 | last,n::l=>(0≤n∧n≤1048576)∧last<n∧Ris n l
theorem qwe:∀ {last:Int} {l:qFm},gk last l=0↔Ris last l
 | _,[]=>by simp[gk,Ris]
 | last,n::l=>by
  unfold gk Ris
  by_cases h1:0≤n∧n≤1048576
  ·rw[if_pos h1]
   by_cases h2:n≤last
   ·omega
   ·rw[if_neg h2,qwe];simp_all
  omega
theorem vE:gkc l=0↔(l.length≤300∧Ris (-1) l):=by
 grind [gkc,qwe]
def Nd (x:Int):Prop:=0≤x∧x≤1048576
instance ndDec (x:Int):Decidable (Nd x):=inferInstanceAs (Decidable (_∧_))
def gp:Bool→Int→qFm→qFm
 | _,_,[]=>[]
 | b,a,n::l=>(if b then n-a-1 else foldOf (n-a))::gp true n l
theorem qrG:∀ (b:Bool) (a:Int) (l:qFm),(gp b a l).length=l.length
 | _,_,[]=>rfl
 | b,a,n::l=>by rw[gp,qCH,qCH,qrG]
theorem qAU {a n:Int}{b:Bool}(ha:Nd a)(hn:Nd n)(hb:b=true→a<n):qbB F a b n=some (if b then n-a-1 else foldOf (n-a),n,true):=by
 unfold qbB
 have h1:=ha.1;have h2:=ha.2;have h3:=hn.1;have h4:=hn.2
 cases b with
 | true =>
  have:=hb rfl
  rw[if_pos rfl,if_pos rfl,zK (a:=n) (b:=a) (by omega) (by omega),zK (a:=n-a) (by omega) (by omega)]
  have e:iconv .u64 (n-a-1)=n-a-1:=jO (by omega) (by omega)
  rw[e];rfl
 | false =>
  rw[if_neg (by simp),if_neg (by simp),zK (by omega) (by omega),qs5 F (by omega) (by omega)]
  rfl
theorem qwh {F:Nat}{l:qFm}(hm:l.length≤300):∀ (k i:Nat) (a:Int) (b:Bool) (o:qFm),l.length<k+i→i≤l.length→Nd a→(b=true→Ris a (l.drop i))→(b=false→∃ q,Ris q (l.drop i))→o.length+(l.length-i)≤1000 →
  qgw F l k (o,(i:Int),a,b)=some (o++gp b a (l.drop i))
 | 0,_,_,_,_,_,_,_,_,_,_=>by omega
 | k+1,i,a,b,o,h,hi,ha,hb,hb2,ho=>by
  show qgu F l (qgw F l k) o (i:Int) a b=_
  unfold qgu
  by_cases hlt:i<l.length
  ·rw[qCw hlt] at hb hb2 ⊢
   have hx:Nd l[i]∧Ris l[i] (l.drop (i+1)):=by
    cases b with
    | true=>have:=hb rfl;exact ⟨this.1,this.2.2⟩
    | false=>obtain ⟨q,hq⟩:=hb2 rfl;exact ⟨hq.1,hq.2.2⟩
   rw[if_pos (by simp_all),qj,qCn hlt]
   simp only[qCm]
   rw[qAU ha hx.1 (fun h=>(hb h).2.1)]
   simp only[qCm]
   rw[ko (by grind),qn (by omega)]
   simp only[qCm]
   rw[qwh hm k (i+1) _ _ _ (by omega) (by omega) hx.1 (fun _=>hx.2) (fun h=>by cases h) (by grind)]
   rw[gp]
   simp
  grind [qgv,gp]
theorem qyR (hF:20000≤F){a:Int}(hm:l.length≤300)(ha:Nd a)(hr:Ris q l):qg6 F l a=some (gp false a l):=by
 unfold qg6
 have:=qwh (F:=F) hm F 0 a false [] (by omega) (by omega) ha (fun h=>by cases h) (fun _=>⟨q,by simp_all⟩) (by grind)
 simp_all
def st (b:Bool)(a g:Int):Option Int:=if 2097152<g then none else if Nd (if b then a+g+1 else a+kZ g) then some (if b then a+g+1 else a+kZ g) else none
theorem qCb {b:Bool}{a g n:Int}(h:st b a g=some n):Nd n∧g≤2097152∧n=(if b then a+g+1 else a+kZ g):=by
 grind [st]
theorem qzq {a g:Int}{b:Bool}(ha:Nd a)(hg:U64 g):match st b a g with
  | none=>∃ x y,k8 F a b g=some (false,x,y)
  | some n=>k8 F a b g=some (true,n,true):=by
 have h1:=ha.1;have h2:=ha.2;have h3:=hg.1;have h4:=hg.2
 by_cases h:2097152<g
 ·have e:st b a g=none:=by grind [st]
  rw[e]
  unfold k8
  simp_all
 ·have hu:-1048577≤kZ g∧kZ g≤1048577:=by grind [kZ]
  have hM:k8 F a b g=some (decide (Nd (if b then a+g+1 else a+kZ g)),(if b then a+g+1 else a+kZ g),true):=by
   unfold k8
   rw[if_neg (by grind)]
   cases b with
   | true =>
    have e:iconv .i64 g=g:=yA (by omega) (by omega)
    rw[if_pos rfl,e,zl (a:=g) (by omega) (by omega),zl (by omega) (by omega)]
    unfold yK
    rw[qoI,show a+(g+1)=a+g+1 from by omega]
    rfl
   | false =>
    rw[if_neg (by simp),qnC F h3 h4]
    simp only[qCm]
    rw[zl (by omega) (by omega)]
    unfold yK
    rw[qoI]
    rfl
  rw[hM]
  unfold st
  grind
def bk:Bool→Int→qFm→Option (qFm)
 | _,_,[]=>some []
 | b,a,g::l=>(st b a g).bind fun n=>(bk true n l).map (n::·)
def zes (k:Nat)(g:qFm):qFm:=g.flatMap fun x=>ze x.toNat k
theorem qj0 (k:Nat)(x:Int)(g:qFm):zes k (x::g)=ze x.toNat k++zes k g:=rfl
theorem qua (k:Nat)(g:qFm):Bit (zes k g):=by
 induction g with
 | nil=>intro x hx;simp[zes] at hx
 | cons x g ih=>grind [qj0,vt,qsF]
def L40 (g:qFm):Prop:=∀ x∈g,0≤x∧x≤1099511627776
theorem qAk {F k:Nat}(hF:20000≤F)(h1:1≤k)(h2:k≤16){g:qFm}(hg:L40 g)(hgm:g.length≤10000):∀ (j i:Nat) (l:qFm),g.length<j+i→i≤g.length→Bit l→l.length≤8192 →
  qgt F g (k:Int) j ((i:Int),(l.length:Int),pk l)=some (if (l++zes k (g.drop i)).length≤8192 then (((l++zes k (g.drop i)).length:Int),pk (l++zes k (g.drop i)),true) else (0,[],false))
 | 0,_,_,_,_,_,_=>by omega
 | j+1,i,l,h,hi,hl,hlm=>by
  show qgs F g (k:Int) (qgt F g (k:Int) j) (i:Int) (l.length:Int) (pk l)=_
  unfold qgs
  by_cases hlt:i<g.length
  ·have hx:=hg _ (qCG hlt)
   obtain ⟨x,hxe⟩:=qCp hx.1
   rw[if_pos (by simp_all),qj,qCn hlt,qCw hlt,qj0,hxe,qCs]
   simp only[qCm]
   have hk:Zk (k:Int):=⟨by omega,by omega⟩
   rw[qz0 hF ⟨by omega,by omega⟩,qtd hk (by omega)]
   simp only[qCm,ok3]
   have hz:=qBL (n:=x) (k:=k) (by omega) h2
   rw[qcv (by omega)]
   by_cases h3:l.length+(ze x k).length≤8192
   ·rw[if_neg (by grind),qsM hF hl (qsF _ _) hlm (by omega)]
    simp only[qCm]
    rw[qn (by omega),qAk hF h1 h2 hg hgm j (i+1) (l++ze x k) (by omega) (by omega) (vt hl (qsF _ _)) (by simp_all)]
    simp
   grind
  ·rw[if_neg (by simp_all),qCB (by omega)]
   have:zes k []=[]:=rfl
   rw[this,qC0,if_pos hlm]
   rfl
theorem qyQ (hF:20000≤F)(h1:1≤k)(h2:k≤16){g:qFm}(hg:L40 g)(hgm:g.length≤10000)(hl:Bit l)(hlm:l.length≤8192) :
  qfJ F (l.length:Int) (pk l) g (k:Int)=some (if (l++zes k g).length≤8192 then (((l++zes k g).length:Int),pk (l++zes k g),true) else (0,[],false)):=by
 unfold qfJ
 have:=qAk hF h1 h2 hg hgm F 0 l (by omega) (by omega) hl hlm
 simp_all
theorem qwg:∀ {b:Bool} {a q:Int} {l:qFm},Nd a→Ris q l→(b=true→Ris a l)→∀ x∈gp b a l,0≤x∧x≤2097153
 | _,_,_,[],_,_,_=>by grind [gp]
 | b,a,q,n::l,ha,hr,hb=>by
  intro x hx
  rw[gp] at hx
  have h1:=ha.1;have h2:=ha.2;have h3:=hr.1.1;have h4:=hr.1.2
  rcases qCu.1 hx with rfl | hx
  ·cases b with
   | true=>have:=(hb rfl).2.1;grind
   | false=>simp only[qCF,if_false];grind [foldOf]
  ·exact qwg hr.1 hr.2.2 (fun _=>hr.2.2) x hx
def gfr (l:qFm)(k:Nat):Nat→Bool→Int→Nat→Int ⊕ (qFm×Nat)
 | 0,_,_,p=>.inr ([],p)
 | m+1,b,a,p=>if (zq k l p).2.2≠0 then .inl (zq k l p).2.2 else match st b a (zq k l p).1 with
  | none=>.inl 3
  | some n=>match gfr l k m true n (zq k l p).2.1.toNat with
   | .inl e=>.inl e
   | .inr r=>.inr (n::r.1,r.2)
def gfI (o:qFm)(r:Int ⊕ (qFm×Nat)):qFm×Int×Int:=match r with | .inl e=>([],0,e) | .inr r=>(o++r.1,(r.2:Int),0)
theorem qAw (hl:Bit l){p:Nat}(h1:1≤k):(zq k l p).2.2≠0∨∃ g q:Nat,zq k l p=((g:Int),(q:Int),0)∧g≤1099511627776∧q≤l.length:=by
 unfold zq
 cases hz:fz (l.drop p) with
 | none=>simp
 | some h =>
  simp only
  by_cases h3:41≤h*k
  ·simp_all
  ·rw[if_neg h3]
   have p3:=qtx (a:=h*k) h1
   have p0:0<2^(h*k):=qD7 (by decide)
   cases hf:flOf l (p+h+1) (2^(h*k+k)-2^(h*k)) with
   | none=>left;simp[en]
   | some r =>
    have:=qz7 hl (n:=r.1) (q:=r.2) (by omega) hf
    simp only[qDk,en]
    grind
theorem qtb {F k many:Nat}{l:qFm}(hF:20000≤F)(hl:Bit l)(hlm:l.length≤8192)(h1:1≤k)(h2:k≤16)(hm:many≤300):∀ (j i p:Nat) (a:Int) (b:Bool) (o:qFm),many<j+i→i≤many→p≤l.length→Nd a→o.length+(many-i)≤1000 →
  qfI F (l.length:Int) (pk l) (k:Int) (many:Int) j ((p:Int),o,(i:Int),a,b)=some (gfI o (gfr l k (many-i) b a p))
 | 0,_,_,_,_,_,_,_,_,_,_=>by omega
 | j+1,i,p,a,b,o,h,hi,hp,ha,ho=>by
  show qfG F (l.length:Int) (pk l) (k:Int) (many:Int) (qfI F (l.length:Int) (pk l) (k:Int) (many:Int) j) (p:Int) o (i:Int) a b=_
  unfold qfG
  by_cases hlt:i<many
  ·rw[if_pos (by simp_all),qp6 hF hl hlm hp h1 h2,show many-i=(many-(i+1))+1 from by omega]
   simp only[qCm]
   unfold gfr
   rcases qAw hl (k:=k) (p:=p) h1 with hz | ⟨g,q,hz,hg,hq⟩
   ·rw[if_pos hz,if_pos (by grind)]
    rfl
   ·rw[hz]
    simp only[ne_eq,not_true_eq_false,if_false,bne_self_eq_false,qCF,qCs]
    have hs:=qzq (F:=F) (b:=b) ha (g:=(g:Int)) ⟨by omega,by omega⟩
    cases hst:st b a (g:Int) with
    | none =>
     rw[hst] at hs
     obtain ⟨x,y,e⟩:=hs
     rw[e];rfl
    | some n =>
     rw[hst] at hs
     simp only at hs
     rw[hs]
     simp only[qCm,qDl,qCF,if_false]
     rw[ko (by grind),qn (by omega)]
     simp only[qCm]
     rw[qtb hF hl hlm h1 h2 hm j (i+1) q n true _ (by omega) (by omega) hq (qCb hst).1 (by grind)]
     grind [gfI]
  ·rw[if_neg (by simp_all),show many-i=0 from by omega]
   simp[qfH,gfr,gfI]
theorem qwd {many p:Nat}{a:Int}(hF:20000≤F)(hl:Bit l)(hlm:l.length≤8192)(h1:1≤k)(h2:k≤16)(hm:many≤300)(hp:p≤l.length)(ha:Nd a) :
  qf5 F (l.length:Int) (pk l) (p:Int) a (k:Int) (many:Int)=some (gfI [] (gfr l k many false a p)):=by
 unfold qf5
 exact qtb hF hl hlm h1 h2 hm F 0 p a false [] (by omega) (by omega) hp ha (by grind)
theorem qy2 {a:Int}:((decide (a<0)) || (decide (1048576<a)))=!decide (Nd a):=by
 grind [Nd]
theorem qs9 {l:qFm}{k:Nat}:∀ {m:Nat} {b:Bool} {a:Int} {p:Nat} {r:qFm×Nat},gfr l k m b a p=.inr r→r.1.length=m
 | 0,_,_,_,r,h=>by grind [gfr]
 | m+1,b,a,p,r,h=>by
  unfold gfr at h
  split at h
  ·grind
  ·split at h
   ·grind
   ·split at h
    ·grind
    ·rename_i r' hr
     simp only[Sum.inr.injEq] at h
     rw[← h]
     simp[qs9 hr]
theorem qBs {b:Bool}{a n:Int}(ha:Nd a)(hn:Nd n)(hb:b=true→a<n):st b a (if b then n-a-1 else foldOf (n-a))=some n:=by
 have h1:=ha.1;have h2:=ha.2;have h3:=hn.1;have h4:=hn.2
 unfold st
 cases b with
 | true =>
  grind
 | false =>
  simp only[qCF,if_false]
  grind [qkQ,foldOf]
theorem qz3:∀ {b:Bool} {a q:Int} {l:qFm},Nd a→Ris q l→(b=true→Ris a l)→bk b a (gp b a l)=some l
 | _,_,_,[],_,_,_=>rfl
 | b,a,q,n::l,ha,hr,hb=>by
  rw[gp,bk,qBs ha hr.1 (fun h=>(hb h).2.1)]
  simp only[qCm]
  rw[qz3 hr.1 hr.2.2 (fun _=>hr.2.2)]
  rfl
theorem qkq:∀ {q:Int} {l:qFm},Ris q l→∀ x∈l,Nd x
 | _,[],_=>by simp
 | _,n::l,h=>by
  intro x hx
  rcases qCu.1 hx with rfl | hx
  ·exact h.1
  ·exact qkq h.2.2 x hx
theorem qCf {n:Nat}(hk:1≤k)(hk2:k≤16)(hn:n≤1099511627776)(p r:qFm):zq k (p++ze n k++r) p.length=((n:Int),((p.length+(ze n k).length:Nat):Int),0):=by
 unfold zq
 have a1:=qAv n k
 have a2:=qAx (n:=n) hk
 have h40:=(quc hn hk2).1
 have hd:(p++ze n k++r).drop p.length=un (zh n k)++(le (n+1-zf n k) (zt n k-zf n k)++r):=by
  grind [ze]
 rw[hd,qz9]
 simp only
 rw[if_neg (by omega)]
 have:=qBV (n:=n+1-zf n k) (m:=zt n k-zf n k) (by omega) (p++un (zh n k)) r
 rw[qCt,qi7] at this
 have e:p++ze n k++r=p++un (zh n k)++le (n+1-zf n k) (zt n k-zf n k)++r:=by simp_all
 have e2:2^(zh n k*k+k)-2^(zh n k*k)=zt n k-zf n k:=rfl
 rw[e,e2,qD3,this]
 have hdm:2^(zh n k*k)+(n+1-zf n k)-1=n:=by
  have:2^(zh n k*k)=zf n k:=rfl
  omega
 grind [en,qCt,qi7]
theorem qta {k:Nat}(hk:1≤k)(hk2:k≤16):∀ {g rs:qFm} {b:Bool} {a:Int} (p r:qFm),L40 g→bk b a g=some rs→gfr (p++zes k g++r) k g.length b a p.length=.inr (rs,p.length+(zes k g).length)
 | [],rs,b,a,p,r,_,h=>by grind [bk,gfr,zes]
 | x::g,rs,b,a,p,r,hg,h=>by
  have hx:=hg x qCC
  obtain ⟨n,hn⟩:=qCp hx.1
  unfold bk at h
  cases hs:st b a x with
  | none=>simp_all
  | some y =>
   rw[hs] at h
   simp only[qCm] at h
   cases hb:bk true y g with
   | none=>simp_all
   | some rs' =>
    rw[hb] at h
    simp only[qDk,qCy] at h
    have hz:=qCf hk hk2 (n:=n) (by omega) p (zes k g++r)
    have e:p++zes k (x::g)++r=p++ze n k++(zes k g++r):=by grind [qj0]
    have ih:=qta hk hk2 (p++ze n k) r (fun y hy=>hg y (qCD _ hy)) hb
    have e2:p++ze n k++zes k g++r=p++ze n k++(zes k g++r):=by simp
    rw[e2,qCt] at ih
    rw[e,qCH,gfr,hz]
    simp only[ne_eq,not_true_eq_false,if_false,qCs]
    rw[← hn,hs]
    simp only
    rw[ih,← h,qj0,hn,qCs,qCt,qD3]
theorem qjM (l:qFm):(srt l).Perm l:=qny l
theorem qoX (l:qFm):(srt l).Pairwise (·≤·):=qtW l
theorem qoW {m:qFm}(hp:l.Perm m)(hm:m.Pairwise (·≤·)):srt l=m :=
 qDO (le:=fun x y:Int=>x≤y) (fun a b _ _ h1 h2=>by omega) (qoX l) hm ((qjM l).trans hp)
theorem qtz (h:l.Pairwise (·<·)):l.Pairwise (·≤·):=h.imp (fun h=>by omega)
theorem qqx (h:l.Pairwise (·<·)):l.Nodup:=h.imp (fun h=>by omega)
theorem qqy (h:l.Pairwise (·≤·))(hn:l.Nodup):l.Pairwise (·<·):=by
 have:=List.Pairwise.and h hn
 grind
theorem qhP (xs:qFm):(Go.Lib.compact xs).length≤xs.length:=by
 grind [Go.Lib.compact,Go.Lib.compactUpTo]
theorem qkh {j:Nat}(h0:0<j)(hj:j<xs.length):Go.Lib.keeps xs.toArray j=decide (xs[j]≠xs[j-1]):=by
 grind [Go.Lib.keeps]
theorem qlt (h:xs.Pairwise (·<·)):Go.Lib.compact xs=xs:=by
 grind [Go.Lib.compact_all,Go.Lib.keeps,qC4]
theorem qoh (h:xs.Pairwise (·≤·))(he:(Go.Lib.compact xs).length=xs.length):xs.Pairwise (·<·):=by
 unfold Go.Lib.compact Go.Lib.compactUpTo at he
 rw[qCX] at he
 have he':((qCL xs.length).filter (Go.Lib.keeps xs.toArray)).length=(qCL xs.length).length:=by simp_all
 have hk:=List.length_filter_eq_length_iff.1 he'
 rw[qC4]
 intro i j hi hj hij
 have h1:=hk j (by grind)
 rw[qkh (by omega) hj] at h1
 have h2:xs[j]≠xs[j-1]:=by grind
 have h3:=qC4.1 h (j-1) j (by omega) hj (by omega)
 have h4:xs[i]≤xs[j-1]:=by
  by_cases e:i=j-1
  ·simp_all
  ·exact qC4.1 h i (j-1) hi (by omega) (by omega)
 omega
theorem qcw:∀ {q:Int} {l:qFm},Ris q l→l.Pairwise (·<·)∧∀ z∈l,q<z
 | _,[],_=>by simp
 | q,x::l,h=>by
  obtain ⟨h1,h2⟩:=qcw h.2.2
  have h3:=h.2.1
  refine ⟨qC1.2 ⟨h2,h1⟩,fun z hz=>?_⟩
  grind
theorem qoQ:∀ {q:Int} {l:qFm},l.Pairwise (·<·)→(∀ z∈l,q<z)→(∀ z∈l,Nd z)→Ris q l
 | _,[],_,_,_=>trivial
 | q,x::l,h,hq,hn=>⟨hn x (by simp),hq x (by simp),qoQ (qC1.1 h).2 (qC1.1 h).1 fun z hz=>hn z (by grind)⟩
def cmn (l r:qFm):Bool:=l.any fun x=>r.contains x
theorem qsU {r:qFm}:cmn l r=false↔∀ x∈l,x∉r:=by simp[cmn]
def mrg (l r:qFm):qFm×Int:=if cmn l r then ([],6) else if 300<l.length+r.length then ([],2) else (srt (l++r),0)
theorem qtc {n:Nat}(h:n≤1000000):jd F ([]:qFm) 0 (n:Int)=some []:=by
 unfold jd lett
 rw[if_neg (by simp)]
 have e1:isub .i64 ((0:Nat):Int) (([]:qFm).length:Int)=0:=by decide
 rw[e1,zK (by omega) (by omega),Int.sub_zero]
 by_cases h0:n=0
 ·subst h0;rfl
 ·simp only
  rw[if_pos (by grind)]
  have e2:sub ([]:qFm) 0 ((0:Nat):Int)=some []:=by decide
  have e3:appz 8796093022208 ([]:qFm) 0 (n:Int)=some (qCo n 0):=by
   grind [appz]
  rw[e2]
  simp only[qCm]
  rw[e3]
  rfl
theorem qus (hF:20000≤F){a:qFm}(h:a.length+b.length≤1000000):zR F [a,b]=some (a++b):=by
 obtain ⟨k,rfl⟩:∃ k,F=k+3:=⟨F-3,by omega⟩
 have i0:idx [a,b] (0:Int)=some a:=rfl
 have i1:idx [a,b] (1:Int)=some b:=rfl
 have e0:iadd .i64 0 (a.length:Int)=(a.length:Int):=by rw[zl (by omega) (by omega)];omega
 have e1:iadd .i64 (a.length:Int) (b.length:Int)=((a.length+b.length:Nat):Int):=qcv (by omega)
 have o1:iadd .i64 0 1=1:=by decide
 have o2:iadd .i64 1 1=2:=by decide
 have hs:kM (k+3) [a,b] ((a.length+b.length:Nat):Int)=some (a++b):=by
  unfold kM
  rw[qtc h]
  simp only[qCm]
  show qS (k+3) [a,b] (zS (k+3) [a,b] (k+2)) [] 0=_
  unfold qS
  rw[if_pos (by simp),i0]
  simp only[qCm]
  rw[ko (by simp;omega),o1]
  simp only[qCm,qCM]
  show qS (k+3) [a,b] (zS (k+3) [a,b] (k+1)) a 1=_
  unfold qS
  rw[if_pos (by simp),i1]
  simp only[qCm]
  rw[ko (by omega),o2]
  simp only[qCm]
  show qS (k+3) [a,b] (zS (k+3) [a,b] k) (a++b) 2=_
  unfold qS
  rw[if_neg (by simp)]
  rfl
 unfold zR
 show qT (k+3) [a,b] (zT (k+3) [a,b] (k+2)) 0 0=_
 unfold qT
 rw[if_pos (by simp),i0]
 simp only[qCm]
 rw[e0,if_neg (by simp),o1]
 show qT (k+3) [a,b] (zT (k+3) [a,b] (k+1)) (a.length:Int) 1=_
 unfold qT
 rw[if_pos (by simp),i1]
 simp only[qCm]
 rw[e1,if_neg (by simp;omega),o2]
 show qT (k+3) [a,b] (zT (k+3) [a,b] k) ((a.length+b.length:Nat):Int) 2=_
 unfold qT
 rw[if_neg (by simp)]
 exact hs
theorem qtV {r:qFm}(hl:l.Pairwise (·<·))(hr:r.Pairwise (·<·)):(srt (l++r)).Pairwise (·<·)↔cmn l r=false:=by
 rw[qsU]
 constructor
 ·intro h x hx hx'
  have hn:(l++r).Nodup:=(qjM _).nodup_iff.1 (qqx h)
  grind
 grind [qqy,qoX,qjM,qqx]
theorem quC (hF:20000≤F){r:qFm}(hl:l.Pairwise (·<·))(hr:r.Pairwise (·<·))(hm:l.length+r.length≤1000000) :
  ((zR F ([l,r]:List (qFm))).bind fun x16=>((zg F x16).bind fun x19=>(chk (decide (x19.length=x16.length)) (((kT F x19).bind fun x29=>((zE F x29).bind fun x32=>(if (decide ((x32.length:Int)<(x19.length:Int))) then some (([]:qFm),(6:Int)) else (if (decide (300<(x19.length:Int))) then some (([]:qFm),2) else some (x19,0)))))))))=some (mrg l r):=by
 rw[qus hF hm]
 simp only[qCm]
 have hsl:(srt (l++r)).length=l.length+r.length:=by rw[qii,qCt]
 unfold zg
 rw[if_pos (by grind)]
 simp only[qCm]
 unfold chk
 rw[if_pos (by simp_all)]
 unfold kT
 rw[ko (by grind)]
 simp only[qCm,qCM]
 unfold zE
 rw[if_pos (qhP _)]
 simp only[qCm]
 unfold mrg
 have hc:=qhP (srt (l++r))
 cases h:cmn l r
 ·grind [qtV,qlt]
 ·have hne:(Go.Lib.compact (srt (l++r))).length≠(srt (l++r)).length:=by
   grind [qtV,qoh,qoX]
  grind
def cr:Int→qFm→Nat
 | _,[]=>0
 | v,y::t=>if y=v then 1+cr (v+1) t else 0
def rs:qFm→List (Int×Int)
 | []=>[]
 | x::t=>match rs t with
  | (y,n)::r=>if y=x+1 then (x,n+1)::r else (x,1)::(y,n)::r
  | []=>[(x,1)]
def rng:Int→Nat→qFm
 | _,0=>[]
 | a,n+1=>a::rng (a+1) n
def flat (R:List (Int×Int)):qFm:=R.flatMap fun r=>rng r.1 r.2.toNat
theorem qyG (v y:Int)(t:qFm):cr v (y::t)=if y=v then 1+cr (v+1) t else 0:=rfl
theorem qzg (x:Int)(t:qFm):rs (x::t)=match rs t with
  | (y,n)::r=>if y=x+1 then (x,n+1)::r else (x,1)::(y,n)::r
  | []=>[(x,1)]:=rfl
theorem qvM:∀ (v:Int) (t:qFm),cr v t≤t.length
 | _,[]=>qCE _
 | v,y::t=>by
  unfold cr
  have:=qvM (v+1) t
  grind
theorem qvL:∀ (v:Int) (t:qFm) {j:Nat},j<cr v t→t[j]?=some (v+j)
 | _,[],_,h=>by simp[cr] at h
 | v,y::t,j,h=>by
  unfold cr at h
  split at h
  ·rename_i he
   cases j with
   | zero=>grind
   | succ j =>
    rw[qEc,qvL (v+1) t (by omega)]
    grind
  omega
theorem qvK:∀ (v:Int) (t:qFm) {y:Int},t[cr v t]?=some y→y≠v+cr v t
 | _,[],_,h=>by simp_all
 | v,x::t,y,h=>by
  unfold cr at h ⊢
  split at h
  ·rename_i he
   rw[if_pos he]
   rw[qD9 1,qEc] at h
   have:=qvK (v+1) t h
   omega
  simp_all
theorem qtP:∀ (x:Int) (t:qFm),rs (x::t)=(x,1+(cr (x+1) t:Int))::rs (t.drop (cr (x+1) t))
 | x,[]=>rfl
 | x,y::t=>by
  have ih:=qtP y t
  rw[qzg,ih,qyG]
  grind
theorem qfp:∀ (a:Int) (n:Nat),(rng a n).length=n
 | _,0=>rfl
 | a,n+1=>by rw[rng,qCH,qfp]
theorem qlZ:∀ (a:Int) (n:Nat),rng a (n+1)=rng a n++[a+n]
 | a,0=>by simp[rng]
 | a,n+1=>by
  rw[rng,qlZ (a+1) n,rng,qDt,show a+1+(n:Int)=a+((n+1:Nat):Int) from by omega]
theorem qeD:∀ {a z:Int} {n:Nat},z∈rng a n↔a≤z∧z<a+n
 | a,z,0=>by simp[rng]
 | a,z,n+1=>by
  rw[rng,qCu,qeD]
  omega
theorem ye (r:Int×Int)(R:List (Int×Int)):flat (r::R)=rng r.1 r.2.toNat++flat R:=rfl
theorem qp5 (A B:List (Int×Int)):flat (A++B)=flat A++flat B:=by grind [flat]
theorem qv4 {z:Int}:z∈flat R↔∃ r∈R,r.1≤z∧z<r.1+r.2.toNat:=by
 grind [flat,qeD]
def Sep:Int→List (Int×Int)→Prop
 | _,[]=>True
 | e,r::R=>e<r.1∧1≤r.2∧Sep (r.1+r.2) R
theorem qxs {e e':Int}(h:Sep e R)(he:e'≤e):Sep e' R:=by
 cases R with
 | nil=>trivial
 | cons r R=>exact ⟨by have:=h.1;omega,h.2⟩
theorem qfq:∀ (l:qFm),flat (rs l)=l
 | []=>rfl
 | x::t=>by
  have ih:=qfq t
  unfold rs
  cases h:rs t with
  | nil =>
   grind [ye,rng]
  | cons p r =>
   obtain ⟨y,n⟩:=p
   rw[h] at ih
   simp only
   by_cases he:y=x+1
   ·rw[if_pos he]
    subst he
    rw[ye] at ih ⊢
    simp only at ih ⊢
    by_cases hn:0≤n
    ·rw[show (n+1).toNat=n.toNat+1 from by omega,rng,qDt,ih]
    ·exfalso
     have:∀ (l:qFm),∀ r∈rs l,1≤r.2:=by
      intro l
      induction l with
      | nil=>grind [rs]
      | cons x t ih =>
       intro r hr
       unfold rs at hr
       cases h:rs t with
       | nil=>simp_all
       | cons p q =>
        grind
     have:=this t (x+1,n) (by simp_all)
     omega
   grind [ye,rng]
theorem ql3:∀ {q:Int} {l:qFm},l.Pairwise (·<·)→(∀ z∈l,q<z)→Sep q (rs l)
 | _,[],_,_=>trivial
 | q,x::t,h,hq=>by
  have h':=qC1.1 h
  have ih:Sep x (rs t):=ql3 h'.2 h'.1
  have hx:=hq x (by simp)
  unfold rs
  cases hr:rs t with
  | nil=>exact ⟨hx,by simp,trivial⟩
  | cons p r =>
   obtain ⟨y,n⟩:=p
   rw[hr] at ih
   obtain ⟨i1,i2,i3⟩:=ih
   simp only at i1 i2 i3 ⊢
   by_cases he:y=x+1
   ·rw[if_pos he]
    subst he
    refine ⟨hx,by omega,?_⟩
    grind
   ·rw[if_neg he]
    exact ⟨hx,by simp,by omega,i2,i3⟩
theorem qr7:∀ {e:Int} {R:List (Int×Int)},Sep e R→∀ z∈flat R,e<z
 | _,[],_=>by simp[flat]
 | e,r::R,h=>by
  intro z hz
  rw[ye] at hz
  rcases qCr.1 hz with hz | hz
  ·have:=qeD.1 hz;have:=h.1;omega
  ·have:=qr7 h.2.2 z hz;have:=h.1;have:=h.2.1;omega
theorem qxg:∀ (a:Int) (n:Nat),(rng a n).Pairwise (·<·)
 | _,0=>qEW
 | a,n+1=>qC1.2 ⟨fun z hz=>by grind [qeD],qxg (a+1) n⟩
theorem qxr:∀ {e:Int} {R:List (Int×Int)},Sep e R→(flat R).Pairwise (·<·)
 | _,[],_=>by simp[flat]
 | e,r::R,h=>by
  rw[ye,qDE]
  refine ⟨qxg _ _,qxr h.2.2,fun x hx y hy=>?_⟩
  have h1:=qeD.1 hx
  have h2:=qr7 h.2.2 y hy
  omega
theorem qhq:∀ {e:Int} {R:List (Int×Int)} (p:Int×Int→Bool),Sep e R→Sep e (R.filter p)
 | _,[],_,_=>trivial
 | e,r::R,p,h=>by
  have ih:=qhq p h.2.2
  rw[qEl]
  split
  ·exact ⟨h.1,h.2.1,ih⟩
  ·exact qxs ih (by have:=h.1;have:=h.2.1;omega)
theorem qkO (F:Nat){xs:qFm}(hm:xs.length≤1000000):∀ (k i:Nat),xs.length<k+i→i≤xs.length→qeT F xs xs k (i:Int)=some true
 | 0,_,_,_=>by omega
 | k+1,i,h,hi=>by
  show qeS F xs xs (qeT F xs xs k) (i:Int)=_
  unfold qeS
  by_cases hlt:i<xs.length
  ·rw[if_pos (by simp_all),qj,qCn hlt]
   simp only[qCm]
   rw[if_neg (by simp),qn (by omega)]
   exact qkO F hm k (i+1) (by omega) (by omega)
  ·rw[if_neg (by simp_all)];rfl
theorem qr4 (hF:xs.length<F)(hm:xs.length≤1000000):qfc F xs xs=some true:=by
 unfold qfc
 rw[if_neg (by simp)]
 exact qkO F hm F 0 (by omega) (by omega)
def vF {σ τ:Type}(yy:σ→(Int×Int)→Option (σ ⊕ τ)):List (Int×Int)→σ→Option (σ ⊕ τ)
 | [],s=>some (.inl s)
 | r::R,s=>(yy s r).bind (Sum.elim (fun s'=>vF yy R s') (fun t=>some (.inr t)))
def Mid (l:qFm):Prop:=∀ x∈l,-4611686018427387904≤x∧x≤4611686018427387904
theorem qxo {σ τ:Type}{F:Nat}{yy:σ→(Int×Int)→Option (σ ⊕ τ)}{rec31:(Int×σ)→Option (σ ⊕ τ)}{l:qFm}{i:Nat}{x:Int}{s:σ}(hl:l.length≤1000000)(hm:Mid l)(hx:l[i]?=some x) :
  ∀ (k j:Nat),cr (x+1) (l.drop (i+1))<k+j→j≤cr (x+1) (l.drop (i+1)) →
   vp F yy rec31 l (i:Int) s k ((1+j:Nat):Int)=qbL F yy rec31 l (i:Int) s ((1+cr (x+1) (l.drop (i+1)):Nat):Int)
 | 0,_,_,_=>by omega
 | k+1,j,h,hj=>by
  have hi:=(qCx.1 hx).1
  have hcl:=qvM (x+1) (l.drop (i+1))
  rw[qCP] at hcl
  have hxm:=hm x (qCq hx)
  show qbK F yy rec31 l (i:Int) s (vp F yy rec31 l (i:Int) s k) ((1+j:Nat):Int)=_
  unfold qbK
  rw[qcv (by omega)]
  by_cases hlt:i+(1+j)<l.length
  ·have hg:l[i+(1+j)]?=some l[i+(1+j)]:=qCn hlt
   have hd:(l.drop (i+1))[j]?=some l[i+(1+j)]:=by grind
   rw[if_pos (by grind),qj,qj,hx,hg]
   simp only[qCm]
   rw[zl (by omega) (by omega)]
   unfold qbM
   by_cases hjc:j<cr (x+1) (l.drop (i+1))
   ·have:=qvL (x+1) (l.drop (i+1)) hjc
    rw[hd,qCy] at this
    rw[if_pos (by grind),qn (by omega),show 1+j+1=1+(j+1) from by omega]
    exact qxo hl hm hx k (j+1) (by omega) (by omega)
   ·obtain rfl:j=cr (x+1) (l.drop (i+1)):=by omega
    grind [qvK]
  ·obtain rfl:j=cr (x+1) (l.drop (i+1)):=by omega
   rw[if_neg (by grind)]
   rfl
theorem qxp {σ τ:Type}{F:Nat}{yy:σ→(Int×Int)→Option (σ ⊕ τ)}{l:qFm}(hl:l.length≤1000000)(hF:l.length+1<F)(hm:Mid l) :
  ∀ (k i:Nat) (s:σ),l.length<k+i→i≤l.length→zv F yy l k ((i:Int),s)=vF yy (rs (l.drop i)) s
 | 0,_,_,_,_=>by omega
 | k+1,i,s,h,hi=>by
  show qbJ F yy l (zv F yy l k) (i:Int) s=_
  unfold qbJ
  by_cases hlt:i<l.length
  ·have hcl:=qvM (l[i]+1) (l.drop (i+1))
   rw[qCP] at hcl
   have h1:=qxo (F:=F) (yy:=yy) (rec31:=zv F yy l k) (s:=s) hl hm (qCn hlt) F 0 (by omega) (by omega)
   rw[show ((1+0:Nat):Int)=1 from rfl] at h1
   rw[if_pos (by simp_all),h1,qCw hlt,qtP]
   unfold qbL vF
   rw[qj,qCn hlt]
   simp only[qCm]
   rw[qcv (by omega),show ((1+cr (l[i]+1) (l.drop (i+1)):Nat):Int)=1+(cr (l[i]+1) (l.drop (i+1)):Int) from by omega]
   congr 2
   funext s'
   rw[qxp hl hF hm k _ s' (by omega) (by omega),qFd]
   grind
  ·rw[if_neg (by simp_all),qCB (by omega)]
   rfl
theorem qzh {σ τ:Type}{yy:σ→(Int×Int)→Option (σ ⊕ τ)}{s:σ}(hl:l.length≤1000000)(hF:l.length+1<F)(hm:Mid l):qcB F yy l s=vF yy (rs l) s:=by
 unfold qcB
 exact qxp hl hF hm F 0 s (by omega) (by omega)
def spO (least:Int)(R:List (Int×Int)):List (Int×Int):=R.filter fun r=>decide (least≤r.2)
def spS (least:Int)(R:List (Int×Int)):List (Int×Int):=R.filter fun r=>decide (r.2<least)
theorem qAq {least:Int}(h:least≤r.2):spO least (r::R)=r::spO least R:=by grind [spO]
theorem qAp {least:Int}(h:¬ least≤r.2):spO least (r::R)=spO least R:=by grind [spO]
theorem qAs {least:Int}(h:¬ least≤r.2):spS least (r::R)=r::spS least R:=by grind [spS]
theorem qAr {least:Int}(h:least≤r.2):spS least (r::R)=spS least R:=by grind [spS]
theorem qnt {F:Nat}{o:List (Int×Int)}{a n:Int}(ha:-4611686018427387904≤a∧a≤4611686018427387904)(hn:0≤n∧n≤1000000){rest:qFm}(hr:rest.length≤1000000):∀ (k j:Nat),n.toNat<k+j→j≤n.toNat →
  qgB F o a n k ((j:Int),rest++rng a j)=some (.inl (rest++rng a n.toNat,o))
 | 0,_,_,_=>by omega
 | k+1,j,h,hj=>by
  show qgA F o a n (qgB F o a n k) (j:Int) (rest++rng a j)=_
  unfold qgA
  by_cases hlt:j<n.toNat
  ·rw[if_pos (by simp_all),ko (by simp[qfp];omega),zl (by omega) (by omega),qn (by omega)]
   simp only[qCm]
   rw[qCv,← qlZ]
   exact qnt ha hn hr k (j+1) (by omega) (by omega)
  grind
def Small (R:List (Int×Int)):Prop:=∀ r∈R,(-4611686018427387904≤r.1∧r.1≤4611686018427387904)∧0≤r.2∧r.2≤1000000
def rawY (F:Nat)(least:Int)(s:qFm×List (Int×Int))(r:Int×Int):Option ((qFm×List (Int×Int)) ⊕ Empty):=qcA F least s.1 s.2 r.1 r.2
theorem qkr {F:Nat}{least:Int}(hF:1000001<F):∀ (R:List (Int×Int)) (rest:qFm) (o:List (Int×Int)),Small R→rest.length+(flat R).length≤1000000→o.length+R.length≤1000000 →
  vF (rawY F least) R (rest,o)=some (.inl (rest++flat (spS least R),o++spO least R))
 | [],rest,o,_,_,_=>by simp[vF,spS,spO,flat]
 | (a,n)::R,rest,o,hs,h1,h2=>by
  have hr:=hs (a,n) (by simp)
  have hs':Small R:=fun r hr=>hs r (by grind)
  rw[ye,qCt,qfp] at h1
  rw[qCH] at h2
  simp only at hr h1
  show ((qcA F least rest o a n).bind _)=_
  unfold qcA
  by_cases h:least≤n
  ·rw[if_pos (by grind),ko (by grind)]
   simp only[qCm,Sum.elim_inl]
   rw[qkr hF R _ _ hs' (by omega) (by grind)]
   grind [qAq,qAr]
  ·rw[if_neg (by grind)]
   have hl:=qnt (F:=F) (o:=o) hr.1 hr.2 (rest:=rest) (by omega) F 0 (by omega) (by omega)
   rw[rng,qC0] at hl
   rw[show ((0:Nat):Int)=0 from rfl] at hl
   rw[hl]
   simp only[qCm,Sum.elim_inl]
   rw[qkr hF R _ _ hs' (by grind [qfp]) (by omega)]
   grind [qAp,qAs,ye]
theorem qxm:∀ {q:Int} {R:List (Int×Int)},Sep q R→∀ r∈R,1≤r.2
 | _,[],_=>by simp
 | q,r::R,h=>by
  intro r' hr
  rcases qCu.1 hr with rfl | hr
  ·exact h.2.1
  ·exact qxm h.2.2 r' hr
theorem qke (hr:r∈R):r.2.toNat≤(flat R).length:=by
 obtain ⟨A,B,rfl⟩:=List.append_of_mem hr
 grind [qp5,ye,qfp]
theorem qkd (h:Sep q R):R.length≤(flat R).length:=by
 induction R generalizing q with
 | nil=>simp
 | cons r R ih =>
  have:=ih h.2.2
  have:=h.2.1
  grind [ye,qfp]
theorem qtG (h:Ris q l):Mid l:=fun x hx=>by have:=qkq h x hx;grind [Nd]
theorem qxn (hl:l.length≤1000000)(h:Ris q l):Small (rs l):=by
 intro r hr
 have hs:=ql3 (qcw h).1 (qcw h).2
 have h1:=qxm hs r hr
 have h2:=qke hr
 have hf:r.1∈flat (rs l):=qv4.2 ⟨r,hr,by omega,by omega⟩
 rw[qfq] at h2 hf
 have h3:=qtG h _ hf
 omega
theorem qr2 (hF:2000000≤F){least:Int}(hl:l.length≤300)(h:Ris q l):qg9 F l least=some (spO least (rs l),flat (spS least (rs l))):=by
 unfold qg9 qhM
 simp only[qCm]
 have hs:=ql3 (qcw h).1 (qcw h).2
 have hlong:=qkd hs
 rw[qfq] at hlong
 have hf:=qkr (F:=F) (least:=least) (by omega) (rs l) [] [] (qxn (by omega) h) (by grind [qfq]) (by grind)
 have he:=qzh (yy:=rawY F least) (s:=(([]:qFm),([]:List (Int×Int)))) (by omega) (by omega:l.length+1<F) (qtG h)
 rw[hf] at he
 show ((qcB F (rawY F least) l ([],[])).bind _)=_
 simp_all
def rowE (n:Int):Int→qFm→Int
 | _,[]=>0
 | last,x::l=>if x<0∨n≤x then 3 else if x≤last then 4 else rowE n x l
def gE (n:Int):List (qFm)→Int
 | []=>0
 | l::g=>if rowE n (-1) l≠0 then rowE n (-1) l else gE n g
def gtot:List (qFm)→Nat
 | []=>0
 | l::g=>l.length+gtot g
def gchk (g:List (qFm)):Int:=if 100<g.length then 2 else if gE g.length g≠0 then gE g.length g else if 600<gtot g then 2 else 0
theorem qk6:∀ {n last:Int} {l:qFm},rowE n last l=0↔(l.Pairwise (·<·)∧∀ x∈l,last<x)∧∀ x∈l,0≤x∧x<n
 | n,last,[]=>by simp[rowE]
 | n,last,x::l=>by
  unfold rowE
  by_cases h1:x<0∨n≤x
  ·rw[if_pos h1]
   constructor
   ·omega
   ·rintro ⟨_,h⟩;have:=h x (by simp);omega
  ·rw[if_neg h1]
   by_cases h2:x≤last
   ·grind
   ·rw[if_neg h2,qk6,qC1]
    grind
theorem qoS {n last:Int}:∀ {l:qFm},-1≤last→last<n→rowE n last l=0→last+1+l.length≤n
 | [],h1,h2,_=>by grind
 | x::l,h1,h2,h=>by
  unfold rowE at h
  split at h
  ·omega
  ·split at h
   ·omega
   ·have:=qoS (l:=l) (by omega) (by omega) h
    grind
theorem qv9 {n:Int}:∀ {g:List (qFm)},gE n g=0↔∀ l∈g,rowE n (-1) l=0
 | []=>by simp[gE]
 | l::g=>by
  unfold gE
  by_cases h:rowE n (-1) l=0
  ·rw[if_neg (by omega),qv9];grind
  simp_all
def Gr (g:List (qFm)):Prop:=g.length≤100∧(∀ l∈g,l.Pairwise (·<·)∧∀ x∈l,0≤x∧x<g.length)∧gtot g≤600
theorem yi {g:List (qFm)}:gchk g=0↔Gr g:=by
 unfold gchk Gr
 by_cases h1:100<g.length
 ·omega
 ·rw[if_neg h1]
  by_cases h2:gE g.length g=0
  ·rw[if_neg (by omega)]
   have h3:=qv9.1 h2
   have h4:∀ l∈g,l.Pairwise (·<·)∧∀ x∈l,0≤x∧x<(g.length:Int):=fun l hl=>by
    grind [qk6]
   grind
  grind [qv9,qk6]
theorem qca {g:List (qFm)}(h:Gr g)(hl:l∈g):l.length≤100:=by
 have h1:=(h.2.1 l hl).2
 have h2:rowE g.length (-1) l=0:=qk6.2 ⟨⟨(h.2.1 l hl).1,fun x hx=>by grind⟩,h1⟩
 have:=qoS (by omega) (by omega) h2
 have:=h.1
 omega
theorem qpO {F:Nat}{rec38:(Int×Int)→Option Int}{g:List (qFm)}{m i:Int}{l:qFm}(hg:g.length≤100):∀ (k j:Nat) (last:Int),102<k+j→(j:Int)≤last+1→last<g.length→-1≤last →
  qdr F rec38 g m i l k (last,(j:Int))=if rowE g.length last (l.drop j)≠0 then some (rowE g.length last (l.drop j)) else qbF F rec38 m i l
 | 0,j,last,h,h1,h2,h3=>by omega
 | k+1,j,last,h,h1,h2,h3=>by
  show qdo F rec38 g m i l (qdr F rec38 g m i l k) last (j:Int)=_
  unfold qdo
  by_cases hlt:j<l.length
  ·rw[if_pos (by simp_all),qj,qCn hlt,qCw hlt]
   simp only[qCm]
   unfold rowE
   by_cases c1:l[j]<0∨(g.length:Int)≤l[j]
   ·simp_all
   ·rw[if_neg (by grind),if_neg c1]
    by_cases c2:l[j]≤last
    ·simp_all
    ·rw[if_neg (by grind),if_neg c2,qn (by omega)]
     exact qpO hg k (j+1) l[j] (by omega) (by omega) (by omega) (by omega)
  grind [qCB,rowE]
theorem qm0 {F:Nat}(hF:1000≤F){g:List (qFm)}(hg:g.length≤100):∀ (k i:Nat) (m:Nat),g.length<k+i→i≤g.length→m≤100*i →
  vn F g k ((m:Int),(i:Int))=if gE g.length (g.drop i)≠0 then some (gE g.length (g.drop i)) else if 600<m+gtot (g.drop i) then some 2 else some 0
 | 0,_,_,_,_,_=>by omega
 | k+1,i,m,h,hi,hm=>by
  show qdn F g (vn F g k) (m:Int) (i:Int)=_
  unfold qdn
  by_cases hlt:i<g.length
  ·rw[if_pos (by simp_all),qj,qCn hlt,qCw hlt]
   simp only[qCm]
   have hin:=qpO (F:=F) (rec38:=vn F g k) (m:=(m:Int)) (i:=(i:Int)) (l:=g[i]) hg F 0 (-1) (by omega) (by omega) (by omega) (by omega)
   rw[qCY,show ((0:Nat):Int)=0 from rfl] at hin
   rw[hin]
   unfold gE gtot
   by_cases hr:rowE g.length (-1) g[i]=0
   ·have hlen:=qoS (by omega) (by omega) hr
    have e:(if rowE (g.length:Int) (-1) g[i]≠0 then rowE (g.length:Int) (-1) g[i] else gE (g.length:Int) (g.drop (i+1)))=gE (g.length:Int) (g.drop (i+1)):=if_neg (by omega)
    rw[if_neg (show ¬ rowE (g.length:Int) (-1) g[i]≠0 by omega),e]
    unfold qbF qdq
    rw[qcv (by omega),qn (by omega),qm0 hF hg k (i+1) (m+g[i].length) (by omega) (by omega) (by omega),qD3]
   simp_all
  grind [qdp,gE,gtot]
theorem yY (hF:1000≤F){g:List (qFm)}:kQ F g=some (gchk g):=by
 unfold kQ gchk
 by_cases h:100<g.length
 ·grind
 ·have:=qm0 hF (g:=g) (by omega) F 0 0 (by omega) (by omega) (by omega)
  grind
def af (i:Nat):List (qFm)→List (Int×Int)
 | []=>[]
 | l::g=>l.map (fun x=>((i:Int),x))++af (i+1) g
theorem qkK {σ τ:Type}{yy:σ→(Int×Int)→Option (σ ⊕ τ)}:∀ (A B:List (Int×Int)) (s:σ),vF yy (A++B) s=(vF yy A s).bind (Sum.elim (fun s'=>vF yy B s') (fun t=>some (.inr t)))
 | [],B,s=>rfl
 | p::A,B,s=>by
  show (yy s p).bind _=((yy s p).bind _).bind _
  cases yy s p with
  | none=>rfl
  | some r =>
   cases r with
   | inl s'=>exact qkK A B s'
   | inr t=>rfl
theorem qvp {σ τ:Type}{F:Nat}{yy:σ→(Int×Int)→Option (σ ⊕ τ)}{rec7:(Int×σ)→Option (σ ⊕ τ)}{i:Int}{l:qFm}(hm:l.length≤1000000):∀ (k j:Nat) (s:σ),l.length<k+j→j≤l.length →
  jF F yy rec7 i l k ((j:Int),s)=(vF yy ((l.drop j).map fun x=>(i,x)) s).bind (Sum.elim (fun s'=>qco F yy rec7 i s') (fun t=>some (.inr t)))
 | 0,_,_,_,_=>by omega
 | k+1,j,s,h,hj=>by
  show qbE F yy rec7 i l (jF F yy rec7 i l k) (j:Int) s=_
  unfold qbE
  by_cases hlt:j<l.length
  ·rw[if_pos (by simp_all),qj,qCn hlt,qCw hlt,qC5]
   simp only[qCm,vF]
   cases yy s (i,l[j]) with
   | none=>rfl
   | some r =>
    cases r with
    | inl s' =>
     simp only[qCm,Sum.elim_inl]
     rw[qn (by omega)]
     exact qvp hm k (j+1) s' (by omega) (by omega)
    | inr t=>rfl
  ·rw[if_neg (by simp_all),qCB (by omega)]
   rfl
theorem qsI {σ τ:Type}{F:Nat}{yy:σ→(Int×Int)→Option (σ ⊕ τ)}{g:List (qFm)}(hm:g.length≤1000000)(hr:∀ l∈g,l.length≤1000000∧l.length<F):∀ (k i:Nat) (s:σ),g.length<k+i→i≤g.length →
  kq F yy g k ((i:Int),s)=vF yy (af i (g.drop i)) s
 | 0,_,_,_,_=>by omega
 | k+1,i,s,h,hi=>by
  show qcn F yy g (kq F yy g k) (i:Int) s=_
  unfold qcn
  by_cases hlt:i<g.length
  ·have hrow:=hr _ (qCG hlt)
   rw[if_pos (by simp_all),qj,qCn hlt,qCw hlt]
   simp only[qCm]
   have:=qvp (F:=F) (yy:=yy) (rec7:=kq F yy g k) (i:=(i:Int)) hrow.1 F 0 s (by omega) (by omega)
   rw[qCY,show ((0:Nat):Int)=0 from rfl] at this
   rw[this]
   unfold af
   rw[qkK]
   congr 1
   funext r
   cases r with
   | inl s' =>
    simp only[Sum.elim_inl]
    unfold qco
    rw[qn (by omega)]
    exact qsI hm hr k (i+1) s' (by omega) (by omega)
   | inr t=>rfl
  ·rw[if_neg (by simp_all),qCB (by omega)]
   rfl
theorem qoa {σ τ:Type}{yy:σ→(Int×Int)→Option (σ ⊕ τ)}{g:List (qFm)}{s:σ}(hF:g.length<F)(hm:g.length≤1000000)(hr:∀ l∈g,l.length≤1000000∧l.length<F):jQ F yy g s=vF yy (af 0 g) s:=by
 unfold jQ
 have:=qsI (yy:=yy) hm hr F 0 s (by omega) (by omega)
 simp_all
theorem qt7 {σ τ:Type}{F:Nat}{yy:σ→(Int×Int)→Option (σ ⊕ τ)}{l:List (Int×Int)}(hm:l.length≤1000000):∀ (k i:Nat) (s:σ),l.length<k+i→i≤l.length →
  zj F yy l k ((i:Int),s)=vF yy (l.drop i) s
 | 0,_,_,_,_=>by omega
 | k+1,i,s,h,hi=>by
  show zO F yy l (zj F yy l k) (i:Int) s=_
  unfold zO
  by_cases hlt:i<l.length
  ·rw[if_pos (by simp_all),qj,qCn hlt,qCw hlt]
   simp only[qCm,vF]
   cases yy s l[i] with
   | none=>rfl
   | some r =>
    cases r with
    | inl s' =>
     simp only[qCm,Sum.elim_inl]
     rw[qn (by omega)]
     exact qt7 hm k (i+1) s' (by omega) (by omega)
    | inr t=>rfl
  ·rw[if_neg (by simp_all),qCB (by omega)]
   rfl
theorem qjw {τ:Type}{lim:Nat}{f:Int×Int→Int×Int}{yy:List (Int×Int)→(Int×Int)→Option (List (Int×Int) ⊕ τ)}(hy:∀ s p,yy s p=(app lim s [f p]).bind fun z=>some (.inl z)):∀ (L s:List (Int×Int)),s.length+L.length≤lim→vF yy L s=some (.inl (s++L.map f))
 | [],s,_=>by simp[vF]
 | p::L,s,h=>by
  rw[qCH] at h
  show (yy s p).bind _=_
  rw[hy,ko (by grind)]
  simp only[qCm,Sum.elim_inl]
  rw[qjw hy L (s++[f p]) (by grind)]
  simp
theorem qlm:∀ (i:Nat) (g:List (qFm)),(af i g).length=gtot g
 | _,[]=>rfl
 | i,l::g=>by unfold af gtot;rw[qCt,qCX,qlm (i+1) g]
theorem qpS {g:List (qFm)}(hF:1000≤F)(h:Gr g):zN F g=some (af 0 g):=by
 unfold zN zD
 have h1:=h.1
 have h2:=h.2.2
 rw[qoa (by omega) (by omega) (fun l hl=>by grind [qca]),qjw (lim:=4398046511104) (f:=fun p=>p) ?hy (af 0 g) [] (by grind [qlm])]
 ·simp
 ·exact fun s p=>rfl
theorem qog {l:List (Int×Int)}(hF:l.length<F)(hm:l.length≤1000000):qM F l=some l:=by
 unfold qM qO ym
 have:=fun yy=>qt7 (σ:=List (Int×Int)) (τ:=Empty) (F:=F) (yy:=yy) hm F 0 [] (by omega) (by omega)
 rw[show ((0:Nat):Int)=0 from rfl] at this
 rw[this,qCY,qjw (lim:=4398046511104) (f:=fun p=>p) ?hy l [] (by grind)]
 ·simp
 ·exact fun s p=>rfl
theorem qvl {g:List (qFm)}(hF:1000≤F)(h:Gr g):qds F g=some ((af 0 g).map fun p=>(p.2,p.1)):=by
 unfold qds jE
 have h1:=h.1
 have h2:=h.2.2
 simp only[qCm]
 rw[qoa (by omega) (by omega) (fun l hl=>by grind [qca]),qjw (lim:=4398046511104) (f:=fun p=>(p.2,p.1)) ?hy (af 0 g) [] (by grind [qlm])]
 ·simp
 ·exact fun s p=>rfl
def lexLt (p q:Int×Int):Prop:=p.1<q.1∨(p.1=q.1∧p.2<q.2)
instance decLex (p q:Int×Int):Decidable (lexLt p q):=by unfold lexLt;infer_instance
theorem qnd (a:Int×Int):¬ lexLt a a:=by unfold lexLt;omega
theorem qwt (a b d:Int×Int):lexLt a b→lexLt b d→lexLt a d:=by unfold lexLt;omega
theorem qne (a b:Int×Int):lexLt a b∨a=b∨lexLt b a:=by
 grind [lexLt]
theorem qlu {x y:Int}:jt F x y=some (if x<y then -1 else if y<x then 1 else 0):=by
 unfold jt vw
 grind
theorem qB4 (hF:3≤F){x y:Int}:qfd F [x,y]=some (if x≠0 then x else y):=by
 obtain ⟨k,rfl⟩:=Nat.exists_eq_add_of_le hF
 rw[qD9]
 unfold qfd
 show qaS (k+3) [x,y] (qeV (k+3) [x,y] (k+2)) 0=_
 unfold qaS
 rw[if_pos (by simp)]
 show ((some x).bind _)=_
 simp only[qCm]
 by_cases hx:x=0
 ·rw[if_neg (by grind),if_neg (by omega)]
  show qaS (k+3) [x,y] (qeV (k+3) [x,y] (k+1)) 1=_
  unfold qaS
  rw[if_pos (by simp)]
  show ((some y).bind _)=_
  simp only[qCm]
  by_cases hy:y=0
  ·rw[if_neg (by grind),hy]
   rfl
  simp_all
 simp_all
theorem qwL (hF:3≤F)(a b:Int×Int):∃ z,qer F a.1 a.2 b.1 b.2=some z∧(z<0↔lexLt a b):=by
 unfold qer
 rw[qlu,qlu]
 simp only[qCm]
 rw[qB4 hF]
 simp only[qCm]
 grind [lexLt]
def srtA (l:List (Int×Int)):List (Int×Int):=l.mergeSort fun a b=>decide (¬ lexLt b a)
theorem qeb (l:List (Int×Int)):(srtA l).Perm l:=List.mergeSort_perm l _
theorem qtU (l:List (Int×Int)):(srtA l).Pairwise fun a b=>¬ lexLt b a:=by
 have h:=List.pairwise_mergeSort (le:=fun a b:Int×Int=>decide (¬ lexLt b a)) (fun a b c h1 h2=>by simp only[decide_eq_true_eq] at *;grind [lexLt]) (fun a b=>by simp only[qDN,decide_eq_true_eq];unfold lexLt;omega) l
 exact h.imp (fun h=>by grind)
theorem qh4 (l:List (Int×Int)):(srtA l).length=l.length:=(qeb l).length_eq
theorem qnf {l:List (Int×Int)}(h:l.Pairwise lexLt):l.Nodup:=List.Pairwise.imp (S:=fun a b=>a≠b) (fun {a b} h (he:a=b)=>qnd a (by simp_all)) h
theorem qqN {l:List (Int×Int)}(h:l.Nodup):(srtA l).Pairwise lexLt:=by
 have h1:(srtA l).Nodup:=(qeb l).nodup_iff.2 h
 refine (List.Pairwise.and (qtU l) h1).imp fun {a b} h=>?_
 grind [qne]
theorem qqI {l:List (Int×Int)}(hF:3≤F)(hl:l.length≤1000000):zL F l=some (srtA l) :=
 qxx (lt:=lexLt) (fun a _ b _=>qwL hF a b) qnd qwt qne (by omega) (qeb l) (qtU l)
theorem qiC {l:List (Int×Int)}(hF:3≤F)(hF2:l.length<F)(hl:l.length≤1000000):ql F l=some (srtA l):=by
 grind [ql,qog,qqI,chk,qh4]
theorem pwx:∀ {A B:qFm},A.Pairwise (·<·)→B.Pairwise (·<·)→(∀ z,z∈A↔z∈B)→A=B:=by
 intro A B hA hB h
 have nd:∀ {C:qFm},C.Pairwise (·<·)→C.Nodup:=fun hC=>hC.imp fun h=>by omega
 grind [qDO]
def rowOf (l:List (Int×Int))(i:Int):qFm:=(l.filter fun p=>decide (p.1=i)).map (·.2)
def tab (n:Nat)(l:List (Int×Int)):List (qFm):=(qCL n).map fun (i:Nat)=>rowOf l (i:Int)
theorem qiq (n:Nat)(l:List (Int×Int)):(tab n l).length=n:=by simp[tab]
theorem qjT {n i:Nat}{l:List (Int×Int)}(h:i<n):(tab n l)[i]?=some (rowOf l i):=by simp[tab,h]
theorem qgZ (l:List (Int×Int))(i:Int):(rowOf l i).length≤l.length:=by
 grind [rowOf]
theorem qjU {n:Nat}{l:List (Int×Int)}{b:Int}:tab n (l++[((a:Int),b)])=(tab n l).set a (rowOf l a++[b]):=by
 apply qDe (by simp[tab])
 intro i h1 h2
 rw[qiq] at h1
 rw[List.getElem_set]
 simp only[tab,List.getElem_map,List.getElem_range]
 grind [rowOf]
theorem qt3 (n:Nat):tab n []=qCo n []:=by
 apply qDe (by simp[tab])
 grind [tab,rowOf]
theorem qrV {n:Nat}{lim:Nat}(h:n≤lim):mk lim ([]:qFm) (n:Int)=some (tab n []):=by
 grind [mk,qt3]
def InR (n:Nat)(l:List (Int×Int)):Prop:=∀ p∈l,0≤p.1∧p.1<(n:Int)∧0≤p.2∧p.2<(n:Int)
theorem jp {α:Type}{l:List α}{j:Nat}(h:j<l.length):l.take (j+1)=l.take j++[l[j]]:=by
 simp
theorem qsN {F n:Nat}{l:List (Int×Int)}(hl:∀ p∈l,0≤p.1∧p.1<(n:Int))(hm:l.length≤1000000):∀ (k j:Nat),l.length<k+j→j≤l.length →
  qd4 F l k ((j:Int),tab n (l.take j))=some (tab n l)
 | 0,_,_,_=>by omega
 | k+1,j,h,hj=>by
  show qd3 F l (qd4 F l k) (j:Int) (tab n (l.take j))=_
  unfold qd3
  by_cases hlt:j<l.length
  ·obtain ⟨h1,h2⟩:=hl _ (qCG hlt)
   have hrec:=qsN (F:=F) hl hm k (j+1) (by omega) (by omega)
   obtain ⟨a,ha⟩:=qCp h1
   have e:l[j]=((a:Int),l[j].2):=by grind
   rw[jp hlt,e,qjU] at hrec
   have hrl:=qgZ (l.take j) (a:Int)
   rw[qCA] at hrl
   rw[if_pos (by grind),qj,qCn hlt]
   grind [qj,qjT,ko,lett,qn]
  ·rw[if_neg (by simp_all),qCZ (by omega)]
   rfl
theorem qpM {n:Nat}{l:List (Int×Int)}(hl:∀ p∈l,0≤p.1∧p.1<(n:Int))(hm:l.length≤1000000)(hF:l.length<F)(hn:n≤1000000):qcy F (n:Int) l=some (tab n l):=by
 unfold qcy
 rw[qrV (by omega)]
 simp only[qCm]
 have:=qsN (F:=F) hl hm F 0 (by omega) (by omega)
 simp_all
def IsTab (n:Nat)(l:List (Int×Int))(T:List (qFm)):Prop :=
 T.length=n∧∀ (i:Nat) (r:qFm),T[i]?=some r→r.Pairwise (·<·)∧∀ x,x∈r↔((i:Int),x)∈l
theorem qlH {n:Nat}{l l':List (Int×Int)}{T':List (qFm)}(h:IsTab n l T)(h':IsTab n l' T')(hm:∀ p,p∈l↔p∈l'):T=T':=by
 apply qDe (by rw[h.1,h'.1])
 intro i h1 h2
 have a:=h.2 i _ (qCn h1)
 have b:=h'.2 i _ (qCn h2)
 grind [pwx]
theorem qni {l:List (Int×Int)}{x:Int}:x∈rowOf l i↔(i,x)∈l:=by
 unfold rowOf
 simp
theorem qxh {l:List (Int×Int)}(h:l.Pairwise lexLt):(rowOf l i).Pairwise (·<·):=by
 unfold rowOf
 rw[qEg]
 refine (h.filter _).imp_of_mem fun {a b} ha hb hab=>?_
 simp_all [lexLt]
theorem qvi {n:Nat}{l:List (Int×Int)}(h:l.Pairwise lexLt):IsTab n l (tab n l):=by
 refine ⟨qiq n l,fun i r hr=>?_⟩
 grind [qiq,qjT,qxh,qni]
theorem qqe {n:Nat}{l l':List (Int×Int)}(h:IsTab n l T)(hm:∀ p,p∈l↔p∈l'):IsTab n l' T :=
 ⟨h.1,fun i r hr=>⟨(h.2 i r hr).1,fun x=>by rw[(h.2 i r hr).2,hm]⟩⟩
theorem qgH:∀ {g:List (qFm)} {k:Nat} {p:Int×Int},p∈af k g↔∃ i r,g[i]?=some r∧p.1=((k+i:Nat):Int)∧p.2∈r
 | [],k,p=>by simp[af]
 | l::g,k,p=>by
  unfold af
  rw[qCr,qgH (g:=g),qCV]
  constructor
  ·rintro (⟨x,hx,rfl⟩ | ⟨i,r,h1,h2,h3⟩)
   ·exact ⟨0,l,by simp,by simp,hx⟩
   ·exact ⟨i+1,r,by grind,by omega,h3⟩
  grind
theorem qvo:∀ {g:List (qFm)} {k:Nat},(∀ r∈g,r.Pairwise (·<·))→(af k g).Pairwise lexLt
 | [],k,_=>by simp[af]
 | l::g,k,h=>by
  unfold af
  rw[qDE]
  refine ⟨?_,qvo fun r hr=>h r (by grind),?_⟩
  ·rw[qEg]
   exact (h l (by simp)).imp fun h=>.inr ⟨rfl,h⟩
  ·intro a ha b hb
   obtain ⟨x,_,rfl⟩:=qCV.1 ha
   obtain ⟨i,r,_,h2,_⟩:=qgH.1 hb
   left
   omega
theorem qvn {g:List (qFm)}(h:∀ r∈g,r.Pairwise (·<·)):IsTab g.length (af 0 g) g:=by
 refine ⟨rfl,fun i r hr=>⟨h r (qCq hr),fun x=>?_⟩⟩
 grind [qgH]
theorem qqg {n:Nat}{l:List (Int×Int)}(h:IsTab n l T):∀ r∈T,r.Pairwise (·<·):=fun r hr=>by
 obtain ⟨i,hi⟩:=qDz hr
 exact (h.2 i r hi).1
theorem quB {n:Nat}{l:List (Int×Int)}(h:IsTab n l T)(hl:InR n l)(p:Int×Int):p∈af 0 T↔p∈l:=by
 rw[qgH]
 constructor
 ·rintro ⟨i,r,h1,h2,h3⟩
  have:=((h.2 i r h1).2 p.2).1 h3
  grind
 ·intro hp
  obtain ⟨h1,h2,_,_⟩:=hl p hp
  obtain ⟨a,ha⟩:=qCp h1
  have hlt:a<T.length:=by rw[h.1];omega
  refine ⟨a,T[a],qCn hlt,by omega,?_⟩
  rw[(h.2 a _ (qCn hlt)).2,← ha]
  omega
theorem qi1 {n:Nat}{l:List (Int×Int)}(h:IsTab n l T)(hl:InR n l)(hn:l.Nodup):(af 0 T).Perm l :=
 (List.perm_ext_iff_of_nodup (qnf (qvo (qqg h))) hn).2 (quB h hl)
theorem qqf {n:Nat}{l:List (Int×Int)}(h:IsTab n l T)(hl:InR n l)(hn:n≤100)(hm:(af 0 T).length≤600):Gr T:=by
 refine ⟨by rw[h.1];omega,fun r hr=>⟨qqg h r hr,fun x hx=>?_⟩,by grind [qlm]⟩
 obtain ⟨i,hi⟩:=qDz hr
 have:=hl _ (((h.2 i r hi).2 x).1 hx)
 rw[h.1]
 omega
theorem qhQ {g:List (qFm)}(h:Gr g):InR g.length (af 0 g):=fun p hp=>by
 obtain ⟨i,r,h1,h2,h3⟩:=qgH.1 hp
 have h4:=(qCx.1 h1).1
 have h5:=(h.2.1 r (qCq h1)).2 _ h3
 omega
theorem qAb {g:List (qFm)}(h:Gr g):∀ r∈g,r.Pairwise (·<·):=fun r hr=>(h.2.1 r hr).1
def ofE (n:Int):List (Int×Int)→List (Int×Int)→Int
 | _,[]=>0
 | seen,p::l=>if p.1<0∨n≤p.1∨p.2<0∨n≤p.2 then 3 else if p∈seen then 6 else ofE n (seen++[p]) l
theorem qqm {n:Int}{seen:List (Int×Int)}{p:Int×Int}{l:List (Int×Int)}:ofE n seen (p::l)=if p.1<0∨n≤p.1∨p.2<0∨n≤p.2 then 3 else if p∈seen then 6 else ofE n (seen++[p]) l:=rfl
theorem qoJ {n:Nat}:∀ {l seen:List (Int×Int)},ofE n seen l=0↔InR n l∧l.Nodup∧∀ p∈l,p∉seen
 | [],seen=>by simp[ofE,InR]
 | p::l,seen=>by
  unfold ofE
  by_cases h1:p.1<0∨(n:Int)≤p.1∨p.2<0∨(n:Int)≤p.2
  ·rw[if_pos h1]
   refine ⟨fun h=>by omega,fun h=>?_⟩
   have:=h.1 p (by simp);omega
  ·rw[if_neg h1]
   by_cases h2:p∈seen
   ·simp_all
   ·rw[if_neg h2,qoJ,qDw]
    constructor
    ·rintro ⟨a1,a2,a3⟩
     refine ⟨fun q hq=>?_,⟨fun hp=>a3 p hp (by simp),a2⟩,fun q hq=>?_⟩
     ·rcases qCu.1 hq with rfl | hq
      ·omega
      ·exact a1 q hq
     grind
    ·rintro ⟨a1,⟨a2,a3⟩,a4⟩
     refine ⟨fun q hq=>a1 q (by grind),a3,fun q hq h=>?_⟩
     simp_all
def ofM (n:Int)(l:List (Int×Int)):List (qFm)×Int :=
 if n<0∨100<n then ([],3) else if 600<l.length then ([],2) else if ofE n [] l≠0 then ([],ofE n [] l) else (tab n.toNat (srtA l),0)
theorem qB3 {F n:Nat}{l:List (Int×Int)}(hF:1000≤F)(hn:n≤100)(hl:l.length≤600):∀ (k j:Nat),l.length<k+j→j≤l.length→(ofE n [] l=ofE n (l.take j) (l.drop j)) →
  qgz F (n:Int) l k ((j:Int),l.take j)=some (if ofE n [] l≠0 then ([],ofE n [] l) else (tab n (srtA l),0))
 | 0,_,_,_,_=>by omega
 | k+1,j,h,hj,he=>by
  show qgx F (n:Int) l (qgz F (n:Int) l k) (j:Int) (l.take j)=_
  unfold qgx
  by_cases hlt:j<l.length
  ·have hrec:=qB3 (F:=F) hF hn hl k (j+1) (by omega) (by omega)
   rw[if_pos (by simp_all),qj,qCn hlt]
   simp only[qCm]
   rw[qCw hlt,qqm] at he
   by_cases h1:l[j].1<0∨(n:Int)≤l[j].1∨l[j].2<0∨(n:Int)≤l[j].2
   ·grind
   ·rw[if_neg h1] at he
    rw[if_neg (by simp_all)]
    grind [jp,sins,qn]
  ·rw[qCB (by omega)] at he
   have he:ofE n [] l=0:=he
   obtain ⟨a1,a2,_⟩:=qoJ.1 he
   rw[if_neg (by simp_all),if_neg (by omega)]
   unfold qgy zm
   simp only[qCm]
   rw[qiC (by omega) (by omega) (by omega)]
   simp only[qCm]
   rw[qpM (fun p hp=>by have:=a1 p ((qeb l).mem_iff.1 hp);omega) (by rw[qh4];omega) (by rw[qh4];omega) (by omega)]
   rfl
theorem qB2 {n:Int}{l:List (Int×Int)}(hF:1000≤F):qg7 F n l=some (ofM n l):=by
 unfold qg7 ofM
 by_cases h1:n<0∨100<n
 ·simp_all
 ·rw[if_neg (by grind),if_neg h1]
  by_cases h2:600<l.length
  ·grind
  ·rw[if_neg (by grind),if_neg h2]
   obtain ⟨m,rfl⟩:=qCp (show 0≤n by omega)
   have:=qB3 (F:=F) (n:=m) (l:=l) hF (by omega) (by omega) F 0 (by omega) (by omega) (by simp)
   simp_all
theorem qy4 {n:Nat}{l:List (Int×Int)}(hn:n≤100)(hl:l.length≤600)(h1:InR n l)(h2:l.Nodup):ofM n l=(tab n (srtA l),0):=by
 grind [qoJ,ofM]
theorem qkv {n:Nat}{l:List (Int×Int)}(h:l.Nodup):IsTab n l (tab n (srtA l)) :=
 qqe (qvi (qqN h)) fun _=>(qeb l).mem_iff
def cols (l:List (Int×Int))(i j:Nat):qFm:=((qCL j).filter fun (c:Nat)=>decide (((i:Int),(c:Int))∈l)).map fun (c:Nat)=>(c:Int)
theorem qvG (l:List (Int×Int))(i j:Nat):(cols l i j).length≤j:=by
 grind [cols]
theorem qru {n:Nat}{l:List (Int×Int)}(hl:InR n l):IsTab n l ((qCL n).map fun i=>cols l i n):=by
 refine ⟨by simp,fun i r hr=>?_⟩
 have hi:i<n:=by grind
 simp only[qDv,qEL hi,qDk,qCy] at hr
 subst hr
 unfold cols
 constructor
 ·rw[qEg]
  exact (List.pairwise_lt_range.filter _).imp fun h=>by omega
 ·intro x
  rw[qCV]
  constructor
  ·grind
  ·intro h
   have:=hl _ h
   grind [qCp]
theorem qyp {g:List (qFm)}(hF:1000≤F):qfg F g=some (if gchk g≠0 then ([],gchk g) else (af 0 g,0)):=by
 grind [qfg,jE,yY,qpS,yi]
def gsw (l:List (Int×Int)):List (Int×Int):=l.map fun p=>(p.2,p.1)
theorem qkw (l:List (Int×Int)):(gsw l).length=l.length:=by simp[gsw]
theorem qBv {l:List (Int×Int)}{p:Int×Int}:p∈gsw l↔(p.2,p.1)∈l:=by
 unfold gsw
 grind
theorem qtX {n:Nat}{l:List (Int×Int)}(h:InR n l):InR n (gsw l):=fun p hp=>by
 have:=h _ (qBv.1 hp)
 omega
theorem qjP {l:List (Int×Int)}(h:l.Nodup):(gsw l).Nodup:=by
 grind [gsw]
theorem qlD {g:List (qFm)}(h:Gr g):(af 0 g).length≤600:=by rw[qlm];exact h.2.2
theorem qjz {g:List (qFm)}(h:Gr g):(af 0 g).Nodup:=qnf (qvo (qAb h))
def tn (g:List (qFm)):List (qFm):=tab g.length (srtA (gsw (af 0 g)))
theorem qjY {g:List (qFm)}(h:Gr g):IsTab g.length (gsw (af 0 g)) (tn g):=qkv (qjP (qjz h))
theorem qmm {g:List (qFm)}(h:Gr g):Gr (tn g):=by
 have h1:=qi1 (qjY h) (qtX (qhQ h)) (qjP (qjz h))
 refine qqf (qjY h) (qtX (qhQ h)) h.1 ?_
 rw[h1.length_eq,qkw];exact qlD h
theorem qCd {g:List (qFm)}(h:Gr g):(af 0 (tn g)).Perm (gsw (af 0 g)):=qi1 (qjY h) (qtX (qhQ h)) (qjP (qjz h))
theorem qht (g:List (qFm)):(tn g).length=g.length:=qiq _ _
theorem qzR {g:List (qFm)}(hF:1000≤F):qfh F g=some (if gchk g≠0 then ([],gchk g) else (tn g,0)):=by
 unfold qfh
 rw[yY hF]
 simp only[qCm]
 by_cases h:gchk g=0
 ·have hg:=yi.1 h
  have h1:=hg.1
  have h2:=qlD hg
  rw[if_neg (by grind),if_neg (by omega),qvl hF hg]
  simp only[qCm]
  show (zm F (gsw (af 0 g))).bind _=_
  unfold zm
  simp only[qCm]
  show (ql F (gsw (af 0 g))).bind _=_
  rw[qiC (by omega) (by rw[qkw];omega) (by rw[qkw];omega)]
  simp only[qCm]
  rw[qpM (fun p hp=>by have:=qtX (qhQ hg) p ((qeb _).mem_iff.1 hp);omega) (by grind [qh4,qkw]) (by grind [qh4,qkw]) (by omega)]
  rfl
 simp_all
theorem qzt (l:List (Int×Int))(p:Int×Int):gsw (l++[p])=gsw l++[(p.2,p.1)]:=by simp[gsw]
def Ld (g:List (qFm))(u v:Nat):Prop:=((u:Int),(v:Int))∈af 0 g
theorem qfU {g:List (qFm)}{u v:Nat}:Ld g u v↔∃ r,g[u]?=some r∧(v:Int)∈r:=by
 unfold Ld
 rw[qgH]
 grind
theorem qlK {g:List (qFm)}(hg:Gr g){u v:Nat}(h:Ld g u v):u<g.length∧v<g.length:=by
 have:=qhQ hg _ h
 omega
theorem qwo {g:List (qFm)}(hg:Gr g){u v:Nat}:Ld (tn g) u v↔Ld g v u:=by
 unfold Ld
 rw[(qCd hg).mem_iff]
 unfold gsw
 grind
def Wk (g:List (qFm)):Nat→Nat→Nat→Prop
 | 0,s,t=>s=t
 | k+1,s,t=>∃ u,Ld g s u∧Wk g k u t
theorem qsz {g:List (qFm)}:∀ {j k s u t:Nat},Wk g j s u→Wk g k u t→Wk g (j+k) s t
 | 0,k,s,u,_,h1,h2=>by
  have h1:s=u:=h1
  simp_all
 | j+1,k,_,_,_,⟨w,h0,h1⟩,h2=>by
  rw[show j+1+k=(j+k)+1 by omega]
  exact ⟨w,h0,qsz h1 h2⟩
theorem qye {g:List (qFm)}(h:Ld g s t):Wk g 1 s t:=⟨t,h,rfl⟩
theorem qzX {g:List (qFm)}{u:Nat}(h1:Wk g k s u)(h2:Ld g u t):Wk g (k+1) s t:=qsz h1 (qye h2)
theorem qCe {g:List (qFm)}(hg:Gr g)(hs:s<g.length):Wk g k s t→t<g.length:=by
 induction k generalizing s with
 | zero=>intro h;have h:s=t:=h;omega
 | succ k ih=>rintro ⟨u,h0,h1⟩;grind [qlK]
def gD (d:qFm)(t:Nat):Int:=d.getD t (-1)
theorem qgD (h:t<d.length):d[t]?=some (gD d t):=by grind [gD]
theorem qrD (h:d.length≤t):gD d t=-1:=by grind [gD]
theorem qrE {u:Nat}{x:Int}(h:t<d.length):gD (d.set t x) u=if u=t then x else gD d u:=by
 unfold gD
 grind
theorem qor {e:qFm}(hl:d.length=e.length)(h:∀ t,t<d.length→gD d t=gD e t):d=e:=by
 apply qDb ;grind [qgD]
structure FarOk (g:List (qFm)) (s:Nat) (d:qFm):Prop where
 len:d.length=g.length
 src:gD d s=0
 low:∀ t,-1≤gD d t
 up:∀ u t,Ld g u t→0≤gD d u→0≤gD d t∧gD d t≤gD d u+1
 fr:∀ t,t≠s→0≤gD d t→∃ u,Ld g u t∧gD d u+1=gD d t∧0≤gD d u
theorem FarOk.wk {g:List (qFm)}(h:FarOk g s d):∀ {k u t:Nat},Wk g k u t→0≤gD d u→0≤gD d t∧gD d t≤gD d u+k
 | 0,u,t,hw,h0=>by have hw:u=t:=hw;simp_all
 | k+1,u,t,⟨v,h1,h2⟩,h0=>by
  have h3:=h.up u v h1 h0
  have h4:=h.wk h2 h3.1
  omega
theorem FarOk.le {g:List (qFm)}(h:FarOk g s d)(hw:Wk g k s t):0≤gD d t∧gD d t≤k:=by
 have:=h.wk hw (by rw[h.src];omega)
 rw[h.src] at this;omega
theorem FarOk.way {g:List (qFm)}(h:FarOk g s d):∀ (k t:Nat),gD d t=k→Wk g k s t
 | 0,t,hk=>by
  by_cases ht:t=s
  ·subst ht;rfl
  ·obtain ⟨u,_,h2,h3⟩:=h.fr t ht (by omega)
   omega
 | k+1,t,hk=>by
  by_cases ht:t=s
  ·subst ht;rw[h.src] at hk;omega
  ·obtain ⟨u,h1,h2,h3⟩:=h.fr t ht (by omega)
   exact qzX (h.way k u (by omega)) h1
theorem FarOk.way' {g:List (qFm)}(h:FarOk g s d)(h0:0≤gD d t):Wk g (gD d t).toNat s t:=h.way _ t (by omega)
theorem FarOk.uni {g:List (qFm)}{e:qFm}(h:FarOk g s d)(h':FarOk g s e):d=e:=by
 refine qor (by rw[h.len,h'.len]) fun t _=>?_
 have l1:=h.low t
 have l2:=h'.low t
 by_cases h0:0≤gD d t
 ·have a:=h'.le (h.way' h0)
  have b:=h.le (h'.way' a.1)
  omega
 ·by_cases h1:0≤gD e t
  ·have b:=h.le (h'.way' h1)
   omega
  omega
theorem qfW:∀ {L M:List Nat},L.Nodup→(∀ x∈L,x∈M)→L.length≤M.length
 | [],_,_,_=>Nat.zero_le _
 | x::L,M,h,hs=>by
  have hx:=hs x (by simp)
  have h1:=qDw.1 h
  have:=qfW (L:=L) (M:=M.erase x) h1.2 fun y hy=>(List.mem_erase_of_ne (fun e:y=x=>h1.1 (e▸hy))).2 (hs y (by grind))
  grind
theorem FarOk.levels {g:List (qFm)}(h:FarOk g s d):∀ (k t:Nat),gD d t=k→∀ j,j≤k→∃ v,gD d v=(j:Int)
 | 0,t,hk,j,hj=>⟨t,by omega⟩
 | k+1,t,hk,j,hj=>by
  by_cases hjk:j=k+1
  ·grind
  ·by_cases ht:t=s
   ·subst ht;rw[h.src] at hk;omega
   ·obtain ⟨u,h1,h2,h3⟩:=h.fr t ht (by omega)
    exact h.levels k u (by omega) j (by omega)
theorem FarOk.lt {g:List (qFm)}(h:FarOk g s d)(t:Nat)(ht:0<g.length):gD d t<g.length:=by
 by_cases h0:0≤gD d t
 ·obtain ⟨k,hk⟩:=qCp h0
  have:=qfW (L:=qCL (k+1)) (M:=d.map Int.toNat) List.nodup_range fun j hj=>by
   obtain ⟨v,hv⟩:=h.levels k t hk j (by grind)
   have hvl:v<d.length:=by
    grind [qrD]
   exact qCV.2 ⟨gD d v,qCq (qgD hvl),by omega⟩
  rw[List.length_range,qCX,h.len] at this
  omega
 omega
theorem qrC {p:Int→Bool}(hl:l.Pairwise (·<·)){v:Int}(h:l.find? p=some v){w:Int}(hw:w∈l)(hp:p w=true):v≤w:=by
 induction l with
 | nil=>grind
 | cons x l ih =>
  rw[List.find?_cons] at h
  cases hx:p x with
  | true =>
   rw[hx] at h
   simp only[qCy] at h
   subst h
   rcases qCu.1 hw with rfl | hw
   ·omega
   grind [qC1]
  | false =>
   grind
def nearer (left:qFm)(u:Nat)(v:Int):Bool:=decide (gD left v.toNat+1=gD left u)
def nxt (g:List (qFm))(left:qFm)(u:Nat):Nat:=(((g.getD u []).find? (nearer left u)).getD 0).toNat
theorem qwI {g:List (qFm)}{left:qFm}{u:Nat}(hg:Gr g)(h:FarOk (tn g) t left)(hu:gD left u=((k+1:Nat):Int)) :
  (g.getD u []).find? (nearer left u)=some (nxt g left u:Int)∧Ld g u (nxt g left u)∧gD left (nxt g left u)=(k:Int)∧∀ w,Ld g u w→gD left w=(k:Int)→nxt g left u≤w:=by
 have hut:u≠t:=by
  rintro rfl
  rw[h.src] at hu;omega
 obtain ⟨v,h1,h2,h3⟩:=h.fr u hut (by omega)
 rw[qwo hg,qfU] at h1
 obtain ⟨r,hr,hv⟩:=h1
 have hrow:g.getD u []=r:=by simp_all
 have hrg:=hg.2.1 r (qCq hr)
 have hpv:nearer left u (v:Int)=true:=by
  unfold nearer
  simp_all
 cases hf:r.find? (nearer left u) with
 | none =>
  simp_all
 | some x =>
  have hx:=List.mem_of_find?_eq_some hf
  have hx0:=hrg.2 x hx
  have hpx:=List.find?_some hf
  obtain ⟨n,rfl⟩:=qCp hx0.1
  have hn:nxt g left u=n:=by grind [nxt]
  rw[hn]
  refine ⟨by simp_all,qfU.2 ⟨r,hr,hx⟩,?_,fun w hw1 hw2=>?_⟩
  ·unfold nearer at hpx
   simp_all
  ·obtain ⟨r',hr',hw'⟩:=qfU.1 hw1
   rw[hr] at hr'
   obtain rfl:=Option.some.inj hr'
   have:=qrC hrg.1 hf hw' (by unfold nearer;simp_all)
   omega
def wy (g:List (qFm))(left:qFm):Nat→Nat→List Nat
 | 0,u=>[u]
 | k+1,u=>u::wy g left k (nxt g left u)
theorem qyh (g:List (qFm))(left:qFm):∀ (k u:Nat),(wy g left k u).length=k+1
 | 0,_=>rfl
 | k+1,u=>by rw[wy,qCH,qyh g left k]
theorem qCk (g:List (qFm))(left:qFm)(k u:Nat):(wy g left k u).getD 0 0=u:=by
 cases k <;> rfl
theorem qCl (g:List (qFm))(left:qFm)(k u i:Nat):(wy g left (k+1) u).getD (i+1) 0=(wy g left k (nxt g left u)).getD i 0:=rfl
theorem qyg {g:List (qFm)}{left:qFm}{t:Nat}(hg:Gr g)(h:FarOk (tn g) t left):∀ (k u i:Nat),gD left u=(k:Int)→i≤k→gD left ((wy g left k u).getD i 0)=((k-i:Nat):Int)
 | k,u,0,hu,_=>by rw[qCk,hu,Nat.sub_zero]
 | 0,_,i+1,_,hi=>by omega
 | k+1,u,i+1,hu,hi=>by
  rw[qCl,qyg hg h k _ i (qwI hg h hu).2.2.1 (by omega)]
  omega
theorem qvZ {g:List (qFm)}(h:FarOk g s d)(ht:gD d t=0):t=s:=by
 by_cases hts:t=s
 ·omega
 ·obtain ⟨u,_,h2,h3⟩:=h.fr t hts (by omega)
  omega
def Ud (g:List (qFm))(u v:Nat):Prop:=Ld g u v∨Ld g v u
def Uw (g:List (qFm)):Nat→Nat→Nat→Prop
 | 0,s,t=>s=t
 | k+1,s,t=>∃ u,Ud g s u∧Uw g k u t
theorem qzS {g:List (qFm)}{u v:Nat}(h:Ud g u v):Ud g v u:=h.symm
theorem qsx {g:List (qFm)}:∀ {j k s u t:Nat},Uw g j s u→Uw g k u t→Uw g (j+k) s t
 | 0,k,s,u,_,h1,h2=>by
  have h1:s=u:=h1
  simp_all
 | j+1,k,_,_,_,⟨w,h0,h1⟩,h2=>by
  rw[show j+1+k=(j+k)+1 by omega]
  exact ⟨w,h0,qsx h1 h2⟩
theorem qBC {g:List (qFm)}(h:Ud g s t):Uw g 1 s t:=⟨t,h,rfl⟩
theorem qpj {g:List (qFm)}:∀ {k s t:Nat},Uw g k s t→Uw g k t s
 | 0,s,t,h=>(show s=t from h).symm
 | _+1,_,_,⟨_,h0,h1⟩=>qsx (qpj h1) (qBC (qzS h0))
structure PartOk (g:List (qFm)) (p:qFm):Prop where
 len:p.length=g.length
 le:∀ t,t<g.length→0≤gD p t∧gD p t≤t
 arc:∀ u v,Ld g u v→gD p u=gD p v
 con:∀ t,t<g.length→∃ k,Uw g k (gD p t).toNat t
theorem PartOk.same {g:List (qFm)}(h:PartOk g p):∀ {k x y:Nat},Uw g k x y→gD p x=gD p y
 | 0,x,y,e=>by have e:x=y:=e;rw[e]
 | k+1,x,y,⟨u,h0,h1⟩=>by
  rw[← h.same h1]
  rcases h0 with h0 | h0
  ·exact h.arc _ _ h0
  ·exact (h.arc _ _ h0).symm
theorem PartOk.least {g:List (qFm)}(h:PartOk g p)(hy:y<g.length)(hw:Uw g k x y):gD p x≤y:=by
 rw[h.same hw];exact (h.le y hy).2
theorem PartOk.uni {g:List (qFm)}{q:qFm}(h:PartOk g p)(h':PartOk g q):p=q:=by
 have key:∀ {p q:qFm},PartOk g p→PartOk g q→∀ t,t<g.length→gD p t≤gD q t:=by
  intro p q h h' t ht
  obtain ⟨k,hk⟩:=h'.con t ht
  have a:=h'.le t ht
  have:=h.least (by omega) (qpj hk)
  omega
 refine qor (by rw[h.len,h'.len]) fun t ht=>?_
 rw[h.len] at ht
 grind
theorem PartOk.iff {g:List (qFm)}(h:PartOk g p)(hs:s<g.length)(ht:t<g.length):gD p s=gD p t↔∃ k,Uw g k s t:=by
 constructor
 ·intro e
  obtain ⟨a,ha⟩:=h.con s hs
  obtain ⟨b,hb⟩:=h.con t ht
  rw[e] at ha
  exact ⟨_,qsx (qpj ha) hb⟩
 ·rintro ⟨k,hk⟩
  exact h.same hk
def startF (n s:Nat):qFm:=(qCo n (-1)).set s 0
theorem qc5 {n:Nat}(hs:s<n)(t:Nat):gD (startF n s) t=if t=s then 0 else -1:=by
 grind [startF,gD]
structure Lb (g:List (qFm)) (A:List (Int×Int)) (out:qFm) (f:Nat→Nat):Prop where
 len:out.length=g.length
 par:∀ i,i<g.length→∃ m:Nat,gD out i=(m:Int)∧m≤i∧f m=f i∧(m=i→f i=i)
 le:∀ i,i<g.length→f i≤i
 idem:∀ i,i<g.length→f (f i)=f i
 arcs:∀ p∈A,f p.1.toNat=f p.2.toNat
 con:∀ i,i<g.length→∃ k,Uw g k (f i) i
theorem Lb.done {g:List (qFm)}{out:qFm}{f:Nat→Nat}(h:Lb g (af 0 g) out f)(hg:Gr g):PartOk g ((qCL g.length).map fun (i:Nat)=>(f i:Int)):=by
 have hgD:∀ {t},t<g.length→gD ((qCL g.length).map fun (i:Nat)=>(f i:Int)) t=(f t:Int):=fun ht=>by grind [gD]
 refine ⟨by simp,fun t ht=>?_,fun u v huv=>?_,fun t ht=>?_⟩
 ·rw[hgD ht];have:=h.le t ht;omega
 ·have hin:=qlK hg huv
  rw[hgD hin.1,hgD hin.2]
  have:=h.arcs _ huv
  simp_all
 ·rw[hgD ht,qCs];exact h.con t ht
theorem quG {n:Nat}(h:n≤100):qcH F 1 (n:Int)=some (0,(n:Int)):=by
 have key:∀ n:Fin 101,qcH 0 1 ((n.val:Nat):Int)=some (0,((n.val:Nat):Int)):=by decide +kernel
 exact key ⟨n,by omega⟩
theorem qAm {F n:Nat}{x:Int}(hn:n≤1000):∀ (k m:Nat),n<k+m→1≤m→m≤n→kN F k (qCo m x++qCo (n-m) 0,(m:Int))=some (qCo n x)
 | 0,m,h,_,hm=>by omega
 | k+1,m,h,h1,hm=>by
  show yw F (kN F k) (qCo m x++qCo (n-m) 0) (m:Int)=_
  unfold yw
  have hl:(qCo m x++qCo (n-m) (0:Int)).length=n:=by simp_all
  by_cases hlt:m<n
  ·have e2:sub (qCo m x++qCo (n-m) (0:Int)) 0 (m:Int)=some (qCo m x):=by
    have:=qkP (l:=qCo m x++qCo (n-m) (0:Int)) (i:=0) (j:=m) (by omega) (by omega)
    simp_all
   have e1:sub (qCo m x++qCo (n-m) (0:Int)) (m:Int) (n:Int)=some ((qCo m x++qCo (n-m) (0:Int)).drop m):=by
    grind [qkP]
   rw[if_pos (by simp_all),hl,e1]
   simp only[qCm]
   rw[e2]
   simp only[qCm]
   have hd:((qCo m x++qCo (n-m) (0:Int)).drop m).length=n-m:=by simp
   unfold lett
   rw[hd,qCs,qC3,qcv (by omega)]
   have e3:yI m (qCo m x++qCo (n-m) (0:Int)) (qCo m x)=qCo (m+min m (n-m)) x++qCo (n-(m+min m (n-m))) 0:=by
    unfold yI
    rw[hl,qD0 (by simp),List.take_replicate,qC3,Nat.min_comm,List.drop_append,List.drop_replicate]
    grind [List.replicate_append_replicate]
   rw[e3]
   exact qAm hn k (m+min m (n-m)) (by omega) (by omega) (by omega)
  ·rw[if_neg (by simp_all)]
   unfold vR
   obtain rfl:m=n:=by omega
   simp
theorem qxa {n:Nat}{x:Int}(hF:1000≤F)(hn:n≤100):yd F [x] (n:Int)=some (qCo n x):=by
 unfold yd
 have c1:iconv .u64 (([x]:qFm).length:Int)=1:=by rfl
 have c2:iconv .u64 (n:Int)=(n:Int):=by
  have key:∀ n:Fin 101,iconv .u64 ((n.val:Nat):Int)=((n.val:Nat):Int):=by decide +kernel
  exact key ⟨n,by omega⟩
 have c3:iconv .i64 (n:Int)=(n:Int):=by
  have key:∀ n:Fin 101,iconv .i64 ((n.val:Nat):Int)=((n.val:Nat):Int):=by decide +kernel
  exact key ⟨n,by omega⟩
 rw[if_neg (by simp),c1,c2,quG hn]
 simp only[qCm]
 rw[if_neg (by grind),c3]
 have hmk:mk 17592186044416 (0:Int) (n:Int)=some (qCo n 0):=by
  grind [mk]
 rw[hmk]
 simp only[qCm]
 unfold lett
 by_cases h0:n=0
 ·subst h0
  obtain ⟨k,rfl⟩:=qDS (show F≠0 by omega)
  rfl
 ·have e:yI 0 (qCo n (0:Int)) [x]=qCo 1 x++qCo (n-1) 0:=by
   unfold yI
   grind
  grind [qAm]
def iz (q:List Nat):qFm:=q.map fun (u:Nat)=>(u:Int)
theorem qdK (q:List Nat):(iz q).length=q.length:=by simp[iz]
theorem qwk {q:List Nat}{i:Nat}(h:i<q.length):(iz q)[i]?=some ((q.getD i 0:Nat):Int):=by
 grind [iz]
def unv (out:qFm):Nat:=out.countP fun x=>decide (x<0)
theorem qph {out:qFm}{x:Int}(ht:t<out.length)(h0:gD out t<0)(hx:0≤x):unv (out.set t x)+1=unv out:=by
 unfold unv
 have hge:out[t]<0:=by
  have:=qgD ht
  simp_all
 grind
structure BF (g:List (qFm)) (s:Nat) (out:qFm) (q:List Nat):Prop where
 len:out.length=g.length
 src:gD out s=0
 low:∀ t,-1≤gD out t
 qin:∀ u,u∈q→u<g.length∧0≤gD out u
 qpw:q.Pairwise fun a b=>gD out a≤gD out b
 top:∀ u,u∈q→∀ t,gD out t≤gD out u+1
 don:∀ u,0≤gD out u→u∉q→∀ t,Ld g u t→0≤gD out t∧gD out t≤gD out u+1
 fr:∀ t,t≠s→0≤gD out t→∃ u,Ld g u t∧gD out u+1=gD out t∧0≤gD out u
 hi:∀ t,gD out t+1+(unv out:Int)≤(g.length:Int)
theorem BF.done {g:List (qFm)}{out:qFm}(h:BF g s out []):FarOk g s out :=
 ⟨h.len,h.src,h.low,fun u t hl h0=>h.don u h0 (by simp) t hl,h.fr⟩
theorem BF.pop {g:List (qFm)}{out:qFm}{q:List Nat}(h:BF g s out (a::q))(ha:∀ t,Ld g a t→0≤gD out t∧gD out t≤gD out a+1):BF g s out q where
 len:=h.len
 src:=h.src
 low:=h.low
 qin:=fun u hu=>h.qin u (by grind)
 qpw:=(qC1.1 h.qpw).2
 top:=fun u hu=>h.top u (by grind)
 don:=fun u h0 hu=>by
  by_cases e:u=a
  ·simp_all
  ·exact h.don u h0 (by simp_all)
 fr:=h.fr
 hi:=h.hi
theorem BF.push {g:List (qFm)}{out:qFm}{q:List Nat}(hg:Gr g)(h:BF g s out (a::q))(ht:gD out t<0)(hl:Ld g a t):BF g s (out.set t (gD out a+1)) (a::q++[t]):=by
 have htl:t<out.length:=by rw[h.len];exact (qlK hg hl).2
 have ha0:=(h.qin a (by simp)).2
 have hv:∀ x,gD (out.set t (gD out a+1)) x=if x=t then gD out a+1 else gD out x:=fun x=>qrE htl
 have hne:∀ x,0≤gD out x→x≠t:=fun x hx e=>by grind
 have hold:∀ x,0≤gD out x→gD (out.set t (gD out a+1)) x=gD out x:=fun x hx=>by simp_all
 have hat:gD (out.set t (gD out a+1)) t=gD out a+1:=by simp_all
 have hmin:∀ u,u∈a::q→gD out a≤gD out u:=fun u hu=>by
  rcases qCu.1 hu with rfl | hu
  ·omega
  ·exact (qC1.1 h.qpw).1 u hu
 refine ⟨by rw[List.length_set];exact h.len,by rw[hold s (by rw[h.src];omega)];exact h.src,fun x=>?_,fun u hu=>?_,?_,fun u hu x=>?_,fun u h0 hu x hx=>?_,fun x hxs h0=>?_,fun x=>?_⟩
 ·rw[hv];have:=h.low x;omega
 ·rcases qCr.1 hu with hu | hu
  ·rw[hold u (h.qin u hu).2];exact h.qin u hu
  ·rw[qCI] at hu
   rw[hu,hat]
   exact ⟨(qlK hg hl).2,by omega⟩
 ·rw[qDE]
  refine ⟨h.qpw.imp_of_mem fun {x y} hx hy hxy=>by grind,by simp,fun x hx y hy=>?_⟩
  rw[qCI] at hy
  rw[hy,hat,hold x (h.qin x hx).2]
  exact h.top a (by simp) x
 ·rcases qCr.1 hu with hu | hu
  ·rw[hold u (h.qin u hu).2,hv]
   have:=hmin u hu
   split
   ·omega
   ·exact h.top u hu x
  ·rw[qCI] at hu
   rw[hu,hat,hv]
   have:=h.top a (by simp) x
   omega
 ·have hut:u≠t:=fun e=>hu (by grind)
  have hu':u∉a::q:=fun hm=>hu (qCr.2 (.inl hm))
  rw[hv,if_neg hut] at h0
  have:=h.don u h0 hu' x hx
  simp_all
 ·by_cases e:x=t
  ·grind
  ·rw[hv,if_neg e] at h0 ⊢
   obtain ⟨u,h1,h2,h3⟩:=h.fr x hxs h0
   grind
 ·have:=qph (x:=gD out a+1) htl ht (by omega)
  have h1:=h.hi x
  have h2:=h.hi a
  grind
theorem qrB {F:Nat}{g:List (qFm)}{s a:Nat}{r:qFm}{rec48:(qFm×qFm)→Option (qFm)}(hg:Gr g)(hr:g[a]?=some r):∀ (k j:Nat) (out:qFm) (q:List Nat),r.length<k+j→j≤r.length→BF g s out (a::q)→q.length+unv out≤1000 →
  (∀ t:Nat,(t:Int)∈r.take j→0≤gD out t∧gD out t≤gD out a+1) →
  ∃ out' q',vY F rec48 (a:Int) r k (out,iz (a::q),(j:Int))=qdH F rec48 out' (iz (a::q'))∧BF g s out' (a::q')∧(∀ t:Nat,(t:Int)∈r→0≤gD out' t∧gD out' t≤gD out' a+1)∧q'.length+unv out'=q.length+unv out
 | 0,j,_,_,h,hj,_,_,_=>by omega
 | k+1,j,out,q,h,hj,hb,hm,hp=>by
  have hrl:=qca hg (qCq hr)
  by_cases hlt:j<r.length
  ·have hx0:=(hg.2.1 r (qCq hr)).2 r[j] (qCG hlt)
   obtain ⟨t,ht⟩:=qCp hx0.1
   have htg:t<g.length:=by omega
   have htl:t<out.length:=by rw[hb.len];omega
   have hal:a<out.length:=by rw[hb.len];grind
   have hld:Ld g a t:=qfU.2 ⟨r,hr,by grind⟩
   have ha0:=(hb.qin a (by simp)).2
   have hsn:r.take (j+1)=r.take j++[(t:Int)]:=by rw[jp hlt,ht]
   have hstep:vY F rec48 (a:Int) r (k+1) (out,iz (a::q),(j:Int))=qb7 F rec48 (a:Int) r (vY F rec48 (a:Int) r k) out (iz (a::q)) (j:Int):=rfl
   rw[hstep]
   unfold qb7
   rw[if_pos (by simp_all),qj,qCn hlt,ht]
   simp only[qCm]
   rw[qj,qgD htl]
   simp only[qCm]
   by_cases hneg:gD out t<0
   ·rw[if_pos (by simp_all),qj,qgD hal]
    simp only[qCm]
    have hglen:g.length≤100:=hg.1
    have htop:=hb.top a (by simp) a
    have hbig:=hb.hi a
    rw[ko (by grind [qdK])]
    unfold lett
    simp only[qCm]
    unfold qb8
    rw[qn (by omega),zl (by omega) (by omega),qCs]
    have hb':=hb.push hg hneg hld
    have hz:iz (a::q)++[(t:Int)]=iz (a::(q++[t])):=by simp[iz]
    have hu:=qph (x:=gD out a+1) htl hneg (by omega)
    have hat:gD (out.set t (gD out a+1)) a=gD out a:=by grind [qrE]
    rw[hz]
    obtain ⟨out',q',e1,e2,e3,e4⟩:=qrB (rec48:=rec48) hg hr k (j+1) (out.set t (gD out a+1)) (q++[t]) (by omega) (by omega) hb' (by grind) (fun x hx=>by
     grind [qrE])
    refine ⟨out',q',e1,e2,e3,?_⟩
    grind
   ·rw[if_neg (by simp_all)]
    unfold qb8
    rw[qn (by omega)]
    exact qrB hg hr k (j+1) out q (by omega) (by omega) hb hm (fun x hx=>by
     rw[hsn] at hx
     rcases qCr.1 hx with hx | hx
     ·simp_all
     ·simp only[qCI] at hx
      obtain rfl:x=t:=by omega
      exact ⟨by omega,hb.top a (by simp) x⟩)
  ·have hstep:vY F rec48 (a:Int) r (k+1) (out,iz (a::q),(j:Int))=qb7 F rec48 (a:Int) r (vY F rec48 (a:Int) r k) out (iz (a::q)) (j:Int):=rfl
   refine ⟨out,q,?_,hb,fun t ht=>hp t (by grind),rfl⟩
   grind [qb7]
theorem qs4 {F:Nat}{g:List (qFm)}{s:Nat}(hF:1000≤F)(hg:Gr g):∀ (k:Nat) (out:qFm) (q:List Nat),q.length+unv out<k→q.length+unv out≤1000→BF g s out q→∃ d,vX F g k (out,iz q)=some d∧FarOk g s d
 | 0,_,_,h,_,_=>by omega
 | k+1,out,q,h,hm,hb=>by
  have hstep:vX F g (k+1) (out,iz q)=qfR F g (vX F g k) out (iz q):=rfl
  rw[hstep]
  unfold qfR
  cases q with
  | nil =>
   rw[if_neg (by simp[iz])]
   exact ⟨out,rfl,hb.done⟩
  | cons a q =>
   have hal:=(hb.qin a (by simp)).1
   have hra:g[a]?=some g[a]:=qCn hal
   have hrl:=qca hg (qCG hal)
   rw[if_pos (by simp[iz])]
   have e0:idx (iz (a::q)) 0=some (a:Int):=rfl
   rw[e0]
   simp only[qCm]
   rw[qj,hra]
   simp only[qCm]
   obtain ⟨out',q',e1,e2,e3,e4⟩:=qrB (F:=F) (rec48:=vX F g k) hg hra F 0 out q (by omega) (by omega) hb (by grind) (fun t ht=>by grind)
   rw[show ((0:Nat):Int)=0 from rfl] at e1
   rw[e1]
   unfold qdH
   have es:sub (iz (a::q')) 1 ((iz (a::q')).length:Int)=some (iz q'):=by
    have:=qkP (l:=iz (a::q')) (i:=1) (j:=(iz (a::q')).length) (by simp[iz]) (qCE _)
    rw[show ((1:Nat):Int)=1 from rfl] at this
    rw[this,qDI];rfl
   rw[es]
   simp only[qCm]
   have hpop:=e2.pop (fun t ht=>by
    obtain ⟨r,hr,hm⟩:=qfU.1 ht
    simp_all)
   simp only[qCH] at h hm
   exact qs4 hF hg k out' q' (by omega) (by omega) hpop
theorem qzT (n:Nat):unv (qCo n (-1))=n:=by
 grind [unv,List.countP_replicate]
theorem qvY {g:List (qFm)}(hF:1000≤F)(hg:Gr g)(hs:s<g.length):∃ d,qcU F g (s:Int)=some d∧FarOk g s d:=by
 have hgl:=hg.1
 have hsr:s<(qCo g.length (-1:Int)).length:=by simpa using hs
 unfold qcU
 rw[qxa hF hgl]
 simp only[qCm]
 rw[qj,qCn hsr]
 simp only[qCm]
 unfold lett
 rw[qCs]
 have hst:(qCo g.length (-1:Int)).set s 0=startF g.length s:=rfl
 have hu:unv (startF g.length s)+1=g.length:=by
  have h9:gD (qCo g.length (-1:Int)) s<0:=by
   unfold gD
   rw[List.getD_eq_getElem?_getD,List.getElem?_replicate]
   split <;> simp
  have:=qph (out:=qCo g.length (-1)) (x:=0) hsr h9 (Int.le_refl 0)
  rw[qzT] at this
  exact this
 rw[hst]
 have hone:([(s:Int)]:qFm)=iz [s]:=rfl
 rw[hone]
 refine qs4 hF hg F _ [s] (by simp;omega) (by simp;omega) ⟨by simp[startF],by rw[qc5 hs,if_pos rfl],fun t=>by rw[qc5 hs];split <;> omega,fun u hu=>?_,by simp,fun u hu t=>?_,fun u h0 hu t ht=>?_,fun t hts h0=>?_,fun t=>?_⟩
 ·simp only[qCI] at hu
  subst hu
  exact ⟨hs,by rw[qc5 hs,if_pos rfl];exact Int.le_refl 0⟩
 ·simp only[qCI] at hu
  subst hu
  rw[qc5 hs,qc5 hs,if_pos rfl]
  split <;> omega
 ·rw[qc5 hs] at h0
  split at h0
  ·rename_i e;exact absurd (by simp[e]) hu
  ·omega
 ·rw[qc5 hs,if_neg hts] at h0;omega
 ·rw[qc5 hs]
  split <;> omega
def farL (g:List (qFm))(s:Nat):qFm:=(qcU 1000 g (s:Int)).getD []
theorem qjs {g:List (qFm)}(hg:Gr g)(hs:s<g.length):FarOk g s (farL g s):=by
 obtain ⟨d,h1,h2⟩:=qvY (F:=1000) (qCE _) hg hs
 grind [farL]
theorem qvX {g:List (qFm)}(hF:1000≤F)(hg:Gr g)(hs:s<g.length):qcU F g (s:Int)=some (farL g s):=by
 obtain ⟨d,h1,h2⟩:=qvY hF hg hs
 rw[h1,h2.uni (qjs hg hs)]
def wout (g:List (qFm))(ns:qFm):Bool:=ns.any fun n=>decide (n<0) || decide ((g.length:Int)≤n)
def wchk (g:List (qFm))(ns:qFm):Int:=if gchk g≠0 then gchk g else if wout g ns then 3 else 0
theorem qq6 {F:Nat}{g:List (qFm)}{l:qFm}(hm:l.length≤1000000):∀ (k i:Nat),l.length<k+i→i≤l.length→∃ z,ke F l g k (i:Int)=some z∧decide (0≤z)=wout g (l.drop i)
 | 0,_,_,_=>by omega
 | k+1,i,h,hi=>by
  show ∃ z,kd F l g (ke F l g k) (i:Int)=some z∧_
  unfold kd
  by_cases hlt:i<l.length
  ·rw[if_pos (by simp_all),qj,qCn hlt,qCw hlt]
   simp only[qCm]
   unfold qfQ
   simp only[qCm]
   unfold wout
   rw[List.any_cons]
   by_cases hc:(decide (l[i]<0) || decide ((g.length:Int)≤l[i]))=true
   ·simp_all
   ·rw[if_neg hc,qn (by omega)]
    rw[qE6] at hc
    rw[hc,Bool.false_or]
    exact qq6 hm k (i+1) (by omega) (by omega)
  ·rw[if_neg (by simp_all),qCB (by omega)]
   exact ⟨-1,rfl,rfl⟩
theorem qnF {g:List (qFm)}{ns:qFm}(hF:1000≤F)(hn:ns.length≤100):qdG F g ns=some (wchk g ns):=by
 unfold qdG wchk
 rw[yY hF]
 simp only[qCm]
 by_cases h:gchk g=0
 ·rw[if_neg (by grind),if_neg (by omega)]
  unfold zZ kG
  obtain ⟨z,e1,e2⟩:=qq6 (F:=F) (g:=g) (l:=ns) (by omega) F 0 (by omega) (by omega)
  grind
 simp_all
theorem wchk1 {g:List (qFm)}{s:Int}(h:wchk g [s]=0):Gr g∧∃ n:Nat,s=(n:Int)∧n<g.length:=by
 unfold wchk at h
 by_cases h1:gchk g=0
 ·rw[if_neg (by omega)] at h
  by_cases h2:wout g [s]=true
  ·simp_all
  ·simp[wout] at h2
   grind [qCp,yi]
 omega
theorem wchk2 {g:List (qFm)}{s t:Int}(h:wchk g [s,t]=0):Gr g∧(∃ n:Nat,s=(n:Int)∧n<g.length)∧∃ n:Nat,t=(n:Int)∧n<g.length:=by
 unfold wchk at h
 by_cases h1:gchk g=0
 ·rw[if_neg (by omega)] at h
  by_cases h2:wout g [s,t]=true
  ·simp_all
  ·simp[wout] at h2
   grind [qCp,yi]
 omega
theorem qyd {g:List (qFm)}(hg:Gr g)(hs:s<g.length):wchk g [(s:Int)]=0:=by
 grind [wchk,yi,wout]
def farM (g:List (qFm))(s:Int):qFm×Int:=if wchk g [s]≠0 then ([],wchk g [s]) else (farL g s.toNat,0)
theorem qAB {g:List (qFm)}{s:Int}(hF:1000≤F):qha F g s=some (farM g s):=by
 unfold qha farM
 rw[qnF hF (by simp)]
 simp only[qCm]
 by_cases h:wchk g [s]=0
 ·obtain ⟨hg,n,rfl,hn⟩:=wchk1 h
  grind [qvX]
 simp_all
theorem qnD {F:Nat}{r left:qFm}{u v:Nat}(hm:r.length≤1000000)(hr:∀ x∈r,0≤x∧x<left.length)(hu:u<left.length)(hlo:∀ t,-1≤gD left t∧gD left t≤1000000):∀ (k i:Nat),r.length<k+i→i≤r.length→(r.drop i).find? (nearer left u)=some (v:Int) →
  ∃ z:Nat,kx F r left (u:Int) k (i:Int)=some (z:Int)∧r[z]?=some (v:Int)
 | 0,_,_,_,_=>by omega
 | k+1,i,h,hi,hf=>by
  show ∃ z:Nat,kw F r left (u:Int) (kx F r left (u:Int) k) (i:Int)=some (z:Int)∧_
  unfold kw
  by_cases hlt:i<r.length
  ·have hx:=hr r[i] (qCG hlt)
   obtain ⟨x,hx1⟩:=qCp hx.1
   have hxl:x<left.length:=by omega
   have hlu:=hlo u
   rw[if_pos (by simp_all),qj,qCn hlt]
   simp only[qCm]
   unfold qhc
   rw[hx1,qj,qgD hxl]
   simp only[qCm]
   rw[qj,qgD hu]
   simp only[qCm]
   rw[zK (by omega) (by omega)]
   rw[qCw hlt,List.find?_cons,hx1] at hf
   have hnear:nearer left u (x:Int)=(gD left x == gD left u-1):=by
    unfold nearer
    grind
   rw[hnear] at hf
   cases hc:(gD left x == gD left u-1) with
   | true =>
    grind
   | false =>
    rw[hc] at hf
    simp only[qCF,if_false]
    rw[qn (by omega)]
    exact qnD hm hr hu hlo k (i+1) (by omega) (by omega) hf
  grind
theorem qz5 {g:List (qFm)}(hg:Gr g)(h:FarOk g s d)(t:Nat):-1≤gD d t∧gD d t≤1000000:=by
 have h1:=hg.1
 refine ⟨h.low t,?_⟩
 by_cases h0:0<g.length
 ·have:=h.lt t h0;omega
 ·rw[qrD (by rw[h.len];omega)];omega
theorem qAu {F:Nat}{g:List (qFm)}{left:qFm}{t:Nat}(hF:1000≤F)(hg:Gr g)(h:FarOk (tn g) t left):∀ (m k u:Nat) (acc:qFm),m<k→gD left u=(m:Int)→acc.length+m≤1000 →
  qey F g (t:Int) left k (acc,(u:Int))=some (acc++iz ((wy g left m u).drop 1),0)
 | 0,k,u,acc,hk,hu,ha=>by
  obtain ⟨k,rfl⟩:=qDS (show k≠0 by omega)
  show qcE F g (t:Int) left (qey F g (t:Int) left k) acc (u:Int)=_
  unfold qcE
  have hut:=qvZ h hu
  rw[if_neg (by simp[hut])]
  unfold qgC
  rw[wy]
  simp[iz]
 | m+1,k,u,acc,hk,hu,ha=>by
  obtain ⟨k,rfl⟩:=qDS (show k≠0 by omega)
  show qcE F g (t:Int) left (qey F g (t:Int) left k) acc (u:Int)=_
  unfold qcE
  have hut:u≠t:=by
   rintro rfl
   rw[h.src] at hu;omega
  obtain ⟨n1,n2,n3,n4⟩:=qwI hg h hu
  have hin:=qlK hg n2
  have hrow:g.getD u []=g[u]:=by simp[qEj,qCn hin.1]
  have hrg:=hg.2.1 g[u] (qCG hin.1)
  have hrl:=qca hg (qCG hin.1)
  have hll:left.length=g.length:=by rw[h.len,qht]
  rw[hrow] at n1
  rw[if_pos (by simp;omega),qj,qCn hin.1]
  simp only[qCm]
  unfold kU
  obtain ⟨z,e1,e2⟩:=qnD (F:=F) (r:=g[u]) (left:=left) (u:=u) (v:=nxt g left u) (by omega) (by rw[hll];exact hrg.2) (by rw[hll];exact hin.1) (qz5 (qmm hg) h) F 0 (by omega) (by omega) (by rw[qCY];exact n1)
  rw[show ((0:Nat):Int)=0 from rfl] at e1
  rw[e1]
  simp only[qCm]
  rw[qj,e2]
  simp only[qCm]
  rw[ko (by simp;omega)]
  simp only[qCm]
  rw[qAu hF hg h m k (nxt g left u) (acc++[(nxt g left u:Int)]) (by omega) n3 (by simp;omega),wy]
  have:∀ (m:Nat),(nxt g left u:Int)::iz ((wy g left m (nxt g left u)).drop 1)=iz (wy g left m (nxt g left u)):=fun m=>by cases m <;> rfl
  rw[qCv,List.singleton_append,this]
  rfl
def wayM (g:List (qFm))(s t:Int):qFm×Int :=
 if wchk g [s,t]≠0 then ([],wchk g [s,t]) else if gD (farL (tn g) t.toNat) s.toNat<0 then ([],5) else (iz (wy g (farL (tn g) t.toNat) (gD (farL (tn g) t.toNat) s.toNat).toNat s.toNat),0)
theorem qAD {g:List (qFm)}{s t:Int}(hF:2000≤F):qhb F g s t=some (wayM g s t):=by
 unfold qhb wayM
 rw[qnF (by omega) (by simp)]
 simp only[qCm]
 by_cases h:wchk g [s,t]=0
 ·obtain ⟨hg,⟨n,rfl,hn⟩,m,rfl,hm⟩:=wchk2 h
  rw[if_neg (by grind),if_neg (by omega),qzR (by omega),if_neg (by simp[yi.2 hg])]
  simp only[qCm]
  have hml:m<(tn g).length:=by rw[qht];omega
  have hf:=qjs (qmm hg) hml
  have hnl:n<(farL (tn g) m).length:=by rw[hf.len,qht];omega
  rw[qvX (by omega) (qmm hg) hml]
  simp only[qCm]
  rw[qj,qgD hnl,qCs,qCs]
  simp only[qCm]
  have hb:=qz5 (qmm hg) hf n
  have hlt:=hf.lt n (by omega)
  rw[qht] at hlt
  have h100:=hg.1
  by_cases hneg:gD (farL (tn g) m) n<0
  ·simp_all
  ·rw[if_neg (by simp_all),if_neg hneg]
   obtain ⟨k,hk⟩:=qCp (show 0≤gD (farL (tn g) m) n by omega)
   rw[qAu (by omega) hg hf k F n [(n:Int)] (by omega) hk (by grind),hk,qCs]
   have:∀ (k:Nat),(n:Int)::iz ((wy g (farL (tn g) m) k n).drop 1)=iz (wy g (farL (tn g) m) k n):=fun k=>by cases k <;> rfl
   simp_all
 simp_all
def lens (g:List (qFm)):qFm:=g.map fun r=>(r.length:Int)
def deg (n:Nat)(l:List (Int×Int)):qFm:=lens (tab n l)
theorem qsX {n i:Nat}{l:List (Int×Int)}(h:i<n):(deg n l)[i]?=some ((rowOf l i).length:Int):=by
 grind [deg,lens,qjT]
theorem qvP {n:Nat}{l:List (Int×Int)}{b:Int}:deg n (l++[((a:Int),b)])=(deg n l).set a (((rowOf l a).length+1:Nat):Int):=by
 grind [deg,lens,qjU,List.map_set]
theorem qvO {n:Nat}{l l':List (Int×Int)}(h:l.Perm l'):deg n l=deg n l':=by
 unfold deg lens tab
 rw[qDH,qDH]
 refine qDG fun i _=>?_
 show ((rowOf l i).length:Int)=((rowOf l' i).length:Int)
 unfold rowOf
 rw[qCX,qCX,(h.filter _).length_eq]
theorem qut {n:Nat}{l:List (Int×Int)}(h:IsTab n l T)(hn:l.Nodup):deg n l=lens T:=by
 rw[qlH h (qkv hn) fun p=>Iff.rfl,← qvO (qeb l)]
 rfl
theorem qjr {F n:Nat}{yy:(qFm×qFm)→(Int×Int)→Option ((qFm×qFm) ⊕ Empty)}(hy:∀ s p,yy s p=vP F s.1 s.2 p.1 p.2):∀ (A acc:List (Int×Int)),InR n A→acc.length+A.length≤1000000 →
  vF yy A (deg n (gsw acc),deg n acc)=some (.inl (deg n (gsw (acc++A)),deg n (acc++A)))
 | [],acc,_,_=>by rw[qC0];rfl
 | p::A,acc,h,hm=>by
  rw[qCH] at hm
  obtain ⟨h1,h2,h3,h4⟩:=h p (by simp)
  have hrec:=qjr hy A (acc++[p]) (fun q hq=>h q (by grind)) (by grind)
  rw[qCv] at hrec
  show (yy _ p).bind _=_
  rw[hy]
  unfold vP
  obtain ⟨a,ha⟩:=qCp h1
  obtain ⟨b,hb⟩:=qCp h3
  have e:p=((a:Int),(b:Int)):=Prod.ext ha hb
  have hl1:=qgZ acc (a:Int)
  have hl2:=qgZ (gsw acc) (b:Int)
  rw[qkw] at hl2
  subst e
  simp only at *
  rw[qj,qsX (by omega)]
  simp only[qCm,lett]
  rw[qj,qsX (by omega)]
  simp only[qCm]
  grind [qn,qvP,qzt]
theorem qoE (n:Nat):deg n []=qCo n 0:=by
 grind [deg,lens,qt3,List.map_replicate]
def degM (g:List (qFm)):qFm×qFm×Int:=if gchk g≠0 then ([],[],gchk g) else (lens g,lens (tn g),0)
theorem qry {g:List (qFm)}(hF:1000≤F):qcG F g=some (degM g):=by
 unfold qcG degM
 rw[yY hF]
 simp only[qCm]
 by_cases h:gchk g=0
 ·have hg:=yi.1 h
  have h1:=hg.1
  have h2:=qlD hg
  rw[if_neg (by grind),if_neg (by omega)]
  have hmk:mk 17592186044416 (0:Int) (g.length:Int)=some (deg g.length []):=by
   grind [mk,qoE]
  rw[hmk]
  simp only[qCm]
  unfold qcP jE
  simp only[qCm]
  rw[qoa (by omega) (by omega) (fun l hl=>by grind [qca])]
  have:=qjr (F:=F) (n:=g.length) (yy:=fun x x_1=>vP F x.1 x.2 x_1.1 x_1.2) (fun _ _=>rfl) (af 0 g) [] (qhQ hg) (by grind)
  rw[qCM] at this
  refine (congrArg (fun z=>Option.bind z _) this).trans ?_
  grind [qut,qvn,qAb,qjz,qjY,qjP]
 simp_all
theorem qjK {F:Nat}{xs:List (qFm)}(hm:xs.length≤1000000)(hr:∀ r∈xs,r.length≤1000000∧r.length<F):∀ (k i:Nat),xs.length<k+i→i≤xs.length→qd1 F xs xs k (i:Int)=some true
 | 0,_,_,_=>by omega
 | k+1,i,h,hi=>by
  show qd0 F xs xs (qd1 F xs xs k) (i:Int)=_
  unfold qd0
  by_cases hlt:i<xs.length
  ·have:=hr _ (qCG hlt)
   rw[if_pos (by simp_all),qj,qCn hlt]
   simp only[qCm]
   rw[qr4 this.2 this.1]
   simp only[qCm]
   rw[if_neg (by simp),qn (by omega)]
   exact qjK hm hr k (i+1) (by omega) (by omega)
  ·rw[if_neg (by simp_all)]
   rfl
theorem qr5 {xs:List (qFm)}(hF:xs.length<F)(hm:xs.length≤1000000)(hr:∀ r∈xs,r.length≤1000000∧r.length<F):qel F xs xs=some true:=by
 unfold qel
 rw[if_neg (by simp)]
 exact qjK hm hr F 0 (by omega) (by omega)
def Sm (g:List (qFm)):Prop:=g.length≤100∧∀ r∈g,r.length≤1200
theorem qr3 {g:List (qFm)}(hF:2000≤F)(h:Sm g):qek F g g=some true:=by
 unfold qek
 have:=h.1
 rw[qr5 (by omega) (by omega) (fun r hr=>by have:=h.2 r hr;omega)]
 rfl
theorem qBp:Sm []:=⟨by simp,fun r hr=>by grind⟩
theorem qCa {g:List (qFm)}(h:Gr g):Sm g:=⟨h.1,fun r hr=>by grind [qca]⟩
def By (s:qFm):Prop:=∀ x∈s,0≤x∧x<256
def cut8 (c:UInt8):List UInt8→List (List UInt8)
 | []=>[[]]
 | x::t=>if x=c then []::cut8 c t else match cut8 c t with | []=>[[x]] | h::r=>(x::h)::r
theorem qrI (t:List UInt8)(c:UInt8):-1≤Lib.index t [c]:=Lib.index_ge t [c]
theorem qkI (x:UInt8)(t:List UInt8)(c:UInt8):Lib.index (x::t) [c]=if x=c then 0 else if Lib.index t [c]=-1 then -1 else Lib.index t [c]+1:=by
 rw[show Lib.index (x::t) [c]=if [c].isPrefixOf (x::t) then 0 else if Lib.index t [c] == -1 then -1 else Lib.index t [c]+1 from rfl]
 grind
theorem qmd (c:UInt8)(k:Nat)(s:List UInt8):Lib.splitK [c] 0 (k+1) s=if Lib.index s [c] == -1 then [s] else s.take ((Lib.index s [c]).toNat+0)::Lib.splitK [c] 0 k (s.drop ((Lib.index s [c]).toNat+1)):=rfl
theorem qmc (c:UInt8):∀ (L:List UInt8),Lib.splitK [c] 0 (L.count c) L=cut8 c L
 | []=>rfl
 | x::t=>by
  have ih:=qmc c t
  unfold cut8
  by_cases h:x=c
  ·subst h
   rw[List.count_cons_self,if_pos rfl,← ih]
   rw[qmd,qkI,if_pos rfl]
   simp
  ·rw[if_neg h,← ih,List.count_cons_of_ne (fun e=>h e)]
   cases hk:t.count c with
   | zero=>rfl
   | succ k =>
    rw[qmd,qmd,qkI,if_neg h]
    have hge:=qrI t c
    grind
def cutI (c:Int):qFm→List (qFm)
 | []=>[[]]
 | x::t=>if x=c then []::cutI c t else match cutI c t with | []=>[[x]] | h::r=>(x::h)::r
theorem qh8 (c x:Int)(t:qFm):cutI c (x::t)=if x=c then []::cutI c t else match cutI c t with | []=>[[x]] | h::r=>(x::h)::r:=rfl
def u8 (n:Int):UInt8:=UInt8.ofNat n.toNat
theorem qBA {a b:Int}(ha:0≤a∧a<256)(hb:0≤b∧b<256):u8 a=u8 b↔a=b:=by
 constructor
 ·intro h
  have h1:b8 a=b8 b:=by
   show ((u8 a).toNat:Int)=((u8 b).toNat:Int)
   rw[h]
  grind [qpI]
 simp_all
def toI (l:List UInt8):qFm:=l.map fun u=>(u.toNat:Int)
theorem qvN {c:Int}(hc:0≤c∧c<256):∀ (s:qFm),By s→(cut8 (u8 c) (s.map u8)).map toI=cutI c s
 | [],_=>rfl
 | x::t,h=>by
  have hx:=h x (qCC ..)
  have ih:=qvN hc t fun y hy=>h y (qCD _ hy)
  have hb:((u8 x).toNat:Int)=x:=qpI hx.1 hx.2
  rw[qC5]
  unfold cut8 cutI
  by_cases e:x=c
  ·subst e
   rw[if_pos rfl,if_pos rfl,qC5,ih]
   rfl
  ·rw[if_neg (fun e2=>e ((qBA hx hc).1 e2)),if_neg e,← ih]
   cases cut8 (u8 c) (t.map u8) with
   | nil=>grind [toI]
   | cons a r =>
    show toI (u8 x::a)::r.map toI=(x::toI a)::r.map toI
    rw[show toI (u8 x::a)=((u8 x).toNat:Int)::toI a from rfl,hb]
theorem qku {c:Int}{s:qFm}(hc:0≤c∧c<256)(hs:By s)(hl:s.length<4294967281):splitM s [c]=some (cutI c s):=by
 unfold splitM
 simp only[hl,if_true]
 congr 1
 have h1:=Lib.splitB_data (bstr [c]) 0 (Lib.countB (bstr s) (bstr [c])) (bstr s)
 have h2:Lib.countB (bstr s) (bstr [c])=(s.map u8).count (u8 c):=by
  show Lib.count (bstr s).data.toList (bstr [c]).data.toList=_
  rw[vK,vK]
  exact Lib.count_one _ _
 rw[h2] at h1 ⊢
 rw[vK,vK] at h1
 have h3:Lib.splitK [u8 c] 0 ((s.map u8).count (u8 c)) (s.map u8)=cut8 (u8 c) (s.map u8):=qmc _ _
 have h4:([c].map fun n=>UInt8.ofNat n.toNat)=[u8 c]:=rfl
 have h5:(s.map fun n=>UInt8.ofNat n.toNat)=s.map u8:=rfl
 rw[h4,h5,h3] at h1
 rw[← qvN hc s hs,← h1,qDH]
 rfl
theorem qoj (c:Int)(s:qFm):cutI c s≠[]:=by
 cases s with
 | nil=>simp[cutI]
 | cons x t =>
  unfold cutI
  split
  ·simp
  ·split <;> simp
theorem qoi {c:Int}:∀ {s:qFm},By s→∀ l∈cutI c s,By l
 | [],_,l,hl=>by simp[cutI] at hl;subst hl;exact fun x hx=>by simp at hx
 | x::t,h,l,hl=>by
  have ht:By t:=fun y hy=>h y (qCD _ hy)
  have hx:=h x (qCC ..)
  unfold cutI at hl
  split at hl
  ·rcases qCu.1 hl with rfl | hl
   ·exact fun x hx=>by simp at hx
   ·exact qoi ht l hl
  ·have ih:=fun l hl=>qoi (c:=c) ht l hl
   cases he:cutI c t with
   | nil=>exact absurd he (qoj c t)
   | cons a r =>
    rw[he] at hl ih
    rcases qCu.1 hl with rfl | hl
    ·intro y hy
     rcases qCu.1 hy with rfl | hy
     ·exact hx
     ·exact ih a (qCC ..) y hy
    ·exact ih l (qCD _ hl)
theorem qvs {a b:ByteArray}(h:(a == b)=true):a=b:=by
 obtain ⟨x⟩:=a
 obtain ⟨y⟩:=b
 have h2:(x == y)=true:=h
 rw[beq_iff_eq.1 h2]
theorem qBQ (a b:ByteArray):(a == b)=decide (a=b):=by
 rw[← qln]
 by_cases h:a=b
 ·subst h;simp
 ·rw[decide_eq_false h]
  rw[beq_eq_false_iff_ne]
  intro e
  have h2:=qln a b
  rw[beq_iff_eq.2 e] at h2
  exact h (qvs h2.symm)
theorem bq {a:qFm}(ha:By a)(hb:By b):(bstr a == bstr b)=decide (a=b):=by
 rw[qBQ]
 by_cases e:a=b
 ·subst e;simp
 ·rw[decide_eq_false e,decide_eq_false fun h=>e (qvw ha hb h)]
theorem qAO:By []:=fun x hx=>by simp at hx
theorem qvx {s:qFm}(h:By s):(bstr s == bstr [])=decide (s=[]):=bq h qAO
def pre (w:qFm):List (qFm)→List (qFm)
 | []=>[w]
 | h::r=>(w++h)::r
def dcI (n:Int):qFm:=if n<10 then [48+n] else if n<100 then [48+n/10,48+n%10] else [48+n/100,48+n/10%10,48+n%10]
theorem dg1 {u:Nat}(h:u<10):Lib.decDigits u=[UInt8.ofNat (48+u)]:=by
 unfold Lib.decDigits
 grind
theorem dg2 {u:Nat}(h:¬ u<10):Lib.decDigits u=Lib.decDigits (u/10)++[UInt8.ofNat (48+u%10)]:=by
 rw[Lib.decDigits,dif_neg h]
theorem qq1 {u:Nat}(h:u<10):toI [UInt8.ofNat (48+u)]=[48+(u:Int)]:=by
 have:((48+u)%256:Nat)=48+u:=by omega
 simp[toI,this]
theorem qt6 (a b:List UInt8):toI (a++b)=toI a++toI b:=by simp[toI]
theorem qBT {n:Int}(h:0≤n∧n<1000):toI (Lib.decDigits n.toNat)=dcI n:=by
 unfold dcI
 by_cases h1:n<10
 ·grind [dg1,qq1]
 ·rw[if_neg h1,dg2 (by omega),qt6,qq1 (by omega)]
  by_cases h2:n<100
  ·rw[if_pos h2,dg1 (by omega),qq1 (by omega)]
   grind
  ·rw[if_neg h2,dg2 (by omega),qt6,qq1 (by omega),dg1 (by omega),qq1 (by omega)]
   grind
theorem qk1 {n:Int}(h:0≤n∧n<1000):itoaC n=some (dcI n):=by
 unfold itoaC
 rw[if_pos (by omega),← qBT h]
 unfold Lib.itoa
 rw[if_neg (by omega)]
 rfl
theorem qlw {n:Int}(_h:0≤n∧n<1000):0<(dcI n).length∧(dcI n).length≤3:=by
 grind [dcI]
theorem qob (x:qFm):(bstr x == bstr x)=true:=by rw[← qln];simp
theorem qsZ {F:Nat}{g:List (qFm)}{B l K:Int}(hg:Gr g):∀ (k i:Nat) (T:List (qFm)),g.length<k+i→i≤g.length→T.length=g.length→T.take i=g.take i →
  qgo F g B l K k ((i:Int),T)=some (g,B,l,K)
 | 0,i,_,h,hi,_,_=>by omega
 | k+1,i,T,h,hi,hT,ht=>by
  show qgm F g B l K (qgo F g B l K k) (i:Int) T=_
  unfold qgm
  have hl:=hg.1
  by_cases hlt:i<g.length
  ·rw[if_pos (decide_eq_true (by omega)),qj,qCn hlt]
   simp only[qCm]
   rw[qj,qCn (by omega)]
   simp only[qCm]
   have hr:=qca hg (qCG hlt)
   unfold kT lett
   rw[ko (by grind)]
   simp only[qCm,qCM]
   rw[zl (by omega) (by omega)]
   refine qsZ hg k (i+1) _ (by omega) (by omega) (by grind) ?_
   rw[qCs,jp (by simp_all),jp hlt,List.take_set_of_le (qCE i),ht]
   simp
  ·rw[if_neg (by simp_all)]
   have e:i=g.length:=by omega
   subst e
   rw[qCZ (by omega),qCZ (qCE _)] at ht
   subst ht
   rfl
theorem qpY {g:List (qFm)}{l:Int}(hF:200≤F)(hg:Gr g):qfD F g B l K=some (g,B,l,K):=by
 unfold qfD qgn
 have:=hg.1
 rw[qrV (by omega)]
 simp only[qCm]
 exact qsZ hg F 0 _ (by omega) (by omega) (qiq _ _) rfl
theorem qiY {g:List (qFm)}{l e:Int}(hF:1000≤F)(he:∀ F,vD F B l K=some e):jA F g B l K=some (if gchk g≠0 then gchk g else e):=by
 grind [jA,yY]
theorem qbh {α:Type}{a b:α}:(idx [a,b] (0:Int))=some a∧(idx [a,b] (1:Int))=some b:=⟨rfl,rfl⟩
theorem qrm (n:Nat):qej (n+400)=some true:=by kernel_rfl
theorem quE {g:List (qFm)}{l:Int}{n s:qFm}:qcO F g B l K n s=some ():=rfl
def dkE (e:Int)(g:List (qFm))(B l K:Int)(s:qFm):List (qFm)×Int×Int×Int×qFm×Int :=
 if e≠0 then ([],0,0,0,[],e) else (g,B,l,K,s,0)
theorem qA0 {e:Int}{g:List (qFm)}{l:Int}{n s:qFm}:qr F e g B l K n s=some (dkE e g B l K s):=by
 unfold qr dkE
 by_cases h:e=0
 ·subst h;rfl
 ·rw[if_pos (by simpa using h),if_pos h]
theorem known2 {g:List (qFm)}{l a b:Int}{n s:qFm}(hF:10≤F):zX F g B l K n s [a,b]=some (decide (a<g.length∧b<g.length)):=by
 unfold zX qX zb
 obtain ⟨k,rfl⟩:∃ k,F=k+3:=⟨F-3,by omega⟩
 have e0:qF (k+3) [a,b] g B l K n s (k+3) 0=if (g.length:Int)≤a then some 0 else if (g.length:Int)≤b then some 1 else some (-1):=by
  show qA (k+3) [a,b] g B l K n s (qF (k+3) [a,b] g B l K n s (k+2)) 0=_
  unfold qA va
  rw[if_pos (by simp),(qbh (a:=a) (b:=b)).1]
  simp only[qCm,decide_eq_true_eq]
  congr 1
  show qA (k+3) [a,b] g B l K n s (qF (k+3) [a,b] g B l K n s (k+1)) 1=_
  unfold qA va
  rw[if_pos (by simp),(qbh (a:=a) (b:=b)).2]
  simp only[qCm,decide_eq_true_eq]
  rfl
 rw[e0]
 by_cases h1:(g.length:Int)≤a
 ·rw[if_pos h1]
  simp only[qCm]
  rw[decide_eq_false (by omega:¬ (a<(g.length:Int)∧b<(g.length:Int)))];rfl
 ·rw[if_neg h1]
  by_cases h2:(g.length:Int)≤b
  ·rw[if_pos h2]
   simp only[qCm]
   rw[decide_eq_false (by omega:¬ (a<(g.length:Int)∧b<(g.length:Int)))];rfl
  ·rw[if_neg h2]
   simp only[qCm]
   rw[decide_eq_true (by omega:a<(g.length:Int)∧b<(g.length:Int))];rfl
theorem qqc {F:Nat}{r:qFm}{v:Int}{i:Nat}(hr:r[i]?=some v)(hn:r.Pairwise (·<·))(hm:r.length≤1000):∀ (k j:Nat),i<k+j→j≤i→qZ F r v k (j:Int)=some (i:Int)
 | 0,j,h,hj=>by omega
 | k+1,j,h,hj=>by
  show qY F r v (qZ F r v k) (j:Int)=_
  unfold qY
  obtain ⟨hi,hv⟩:=qCx.1 hr
  rw[if_pos (decide_eq_true (by omega)),qj,qCn (by omega)]
  simp only[qCm]
  by_cases e:j=i
  ·subst e
   rw[if_pos (by simp[hv])]
  ·have hlt:r[j]<r[i]:=qC4.1 hn j i (by omega) hi (by omega)
   rw[if_neg (by simp;omega),zl (by omega) (by omega)]
   exact qqc hr hn hm k (j+1) (by omega) (by omega)
theorem qqa:∀ (g:List (qFm)) (i:Nat) (r:qFm),(∀ x,g[i]?=some x→r.length≤x.length)→gtot (g.set i r)≤gtot g
 | [],_,_,_=>qCE _
 | x::g,0,r,h=>by
  show r.length+gtot g≤x.length+gtot g
  have:=h x rfl;omega
 | x::g,i+1,r,h=>by
  show x.length+gtot (g.set i r)≤x.length+gtot g
  have:=qqa g i r (fun y hy=>h y (by simpa using hy));omega
theorem qj9 {r:qFm}{i:Nat}{v x:Int}(hr:r[i]?=some v)(hn:r.Pairwise (·<·)):x∈r.take i++r.drop (i+1)↔x∈r∧x≠v:=by
 obtain ⟨hi,hv⟩:=qCx.1 hr
 have e:r=r.take i++v::r.drop (i+1):=by rw[← hv,List.getElem_cons_drop,qDo]
 have hn':=hn
 rw[e,qDE] at hn'
 have hn2:=qC1.1 hn'.2.1
 constructor
 ·intro h
  refine ⟨by rw[e];rcases qCr.1 h with h | h <;> simp[h],fun he=>?_⟩
  subst he
  rcases qCr.1 h with h | h
  ·have:=hn'.2.2 x h x (qCC ..);omega
  ·have:=hn2.1 x h;omega
 ·rintro ⟨h,hne⟩
  rw[e] at h
  rcases qCr.1 h with h | h
  ·exact qCr.2 (.inl h)
  ·rcases qCu.1 h with h | h
   ·exact absurd h hne
   ·exact qCr.2 (.inr h)
theorem qrq {g:List (qFm)}{l a b:Int}{s:qFm}(hF:1000≤F)(hg:Gr g)(hm:(a,b)∈af 0 g) :
  ∃ h,vl F g B l K [a,b] s=some (0,h)∧Gr h∧h.length=g.length∧∀ p,p∈af 0 h↔p∈af 0 g∧p≠(a,b):=by
 obtain ⟨n,r,hr,hn,hbr⟩:=qgH.1 hm
 have hn:a=(n:Int):=by simpa using hn
 subst hn
 have hbr:b∈r:=hbr
 obtain ⟨hnl,hrn⟩:=qCx.1 hr
 have hrm:r∈g:=qCq hr
 have hpw:=(hg.2.1 r hrm).1
 have hrl:=qca hg hrm
 obtain ⟨i,hi⟩:=qDz hbr
 have hil:=(qCx.1 hi).1
 have hin:=qhQ hg _ hm
 have h1:=hg.1
 refine ⟨g.set n (r.take i++r.drop (i+1)),?_,⟨by simpa using h1,fun x hx=>?_,?_⟩,by simp,fun p=>?_⟩
 ·unfold vl
  rw[known2 (by omega),decide_eq_true ⟨hin.2.1,hin.2.2.2⟩]
  simp only[qCm,qDl,qCF,if_false]
  rw[(qbh (a:=(n:Int)) (b:=b)).1,(qbh (a:=(n:Int)) (b:=b)).2]
  simp only[qCm]
  rw[qj,hr]
  simp only[qCm]
  rw[show zB F r b=some (i:Int) from qqc hi hpw (by omega) F 0 (by omega) (by omega)]
  simp only[qCm]
  rw[if_neg (by simp)]
  unfold vq lett
  rw[zl (by omega) (by omega),if_pos (by omega)]
  simp only[qCm,qCs]
  rw[show ((i:Int)+1).toNat=i+1 from by omega]
 ·rcases List.mem_or_eq_of_mem_set hx with h | h
  ·simpa using hg.2.1 x h
  ·subst h
   refine ⟨hpw.sublist ?_,fun y hy=>?_⟩
   ·have:=(List.Sublist.refl (r.take i)).append ((List.drop_sublist 1 (r.drop i)))
    rw[qDo,qFd] at this
    exact this
   ·have:=(hg.2.1 r hrm).2 y ((qj9 hi hpw).1 hy).1
    simpa using this
 ·refine qDf (qqa g n _ fun x hx=>?_) hg.2.2
  rw[hr] at hx
  cases hx
  rw[qCt,qCA,qCP];omega
 ·rw[qgH,qgH]
  constructor
  ·rintro ⟨j,x,hx,h2,h3⟩
   rw[qDB] at hx
   by_cases e:n=j
   ·subst e
    rw[if_pos rfl,if_pos hnl] at hx
    cases hx
    have h4:=(qj9 hi hpw).1 h3
    exact ⟨⟨n,r,hr,h2,h4.1⟩,fun e=>h4.2 (by rw[e])⟩
   ·rw[if_neg e] at hx
    exact ⟨⟨j,x,hx,h2,h3⟩,fun e2=>e (by rw[e2] at h2;simp at h2;omega)⟩
  ·rintro ⟨⟨j,x,hx,h2,h3⟩,hne⟩
   by_cases e:n=j
   ·subst e
    rw[hr] at hx
    cases hx
    refine ⟨n,_,by rw[qDB,if_pos rfl,if_pos hnl],h2,(qj9 hi hpw).2 ⟨h3,fun e=>hne ?_⟩⟩
    exact Prod.ext (by rw[h2];simp) e
   ·exact ⟨j,x,by rw[qDB,if_neg e];exact hx,h2,h3⟩
theorem qnu {g:List (qFm)}{l:Int}(hF:2000≤F)(h:Sm g):qcf F g B l K g B l K=some true:=by
 unfold qcf
 rw[qr3 hF h]
 simp
def Rch (g:List (qFm))(x y:Nat):Prop:=∃ k,Wk g k x y
theorem qh1 (g:List (qFm))(x:Nat):Rch g x x:=⟨0,rfl⟩
theorem qan {g:List (qFm)}{z:Nat}:Rch g x y→Rch g y z→Rch g x z:=fun ⟨_,h1⟩ ⟨_,h2⟩=>⟨_,qsz h1 h2⟩
theorem qk5 {g:List (qFm)}(h:Ld g x y):Rch g x y:=⟨1,qye h⟩
def Sc (g:List (qFm))(x y:Nat):Prop:=Rch g x y∧Rch g y x
theorem qoU {g:List (qFm)}(h:Sc g x y):Sc g y x:=⟨h.2,h.1⟩
theorem qjL {g:List (qFm)}{z:Nat}(h:Sc g x y)(h':Sc g y z):Sc g x z:=⟨qan h.1 h'.1,qan h'.2 h.2⟩
theorem qzi (g:List (qFm))(x:Nat):Sc g x x:=⟨qh1 g x,qh1 g x⟩
structure Wf (g:List (qFm)) (G:Nat→Prop) (cm:Nat→Nat) (op:List Nat) (pt:Nat→Int) (clk:Nat):Prop where
 clk_le:∀ x,cm x≤clk
 op_iff:∀ x,x∈op↔(cm x≠0∧pt x<0)
 op_pw:op.Pairwise fun a b=>cm a<cm b
 gop:∀ x,G x→x∈op
 blk:∀ x,cm x≠0→¬ G x→∀ y,Ld g x y→cm y≠0
 ass:∀ x,0≤pt x→cm x≠0∧Sc g x (pt x).toNat∧∀ y,Sc g x y→pt y=pt x∧pt x≤(y:Int)
 rch:∀ x,x∈op→∀ y,y∈op→cm x≤cm y→Rch g x y
 gry:∀ y,y∈op→∃ x,G x∧cm x≤cm y∧Rch g y x
 inN:∀ x,cm x≠0→x<g.length
structure Vp (g:List (qFm)) (G:Nat→Prop) (n:Nat) (cm:Nat→Nat) (op:List Nat) (pt:Nat→Int) (clk:Nat) (cm':Nat→Nat) (op':List Nat) (pt':Nat→Int) (clk' l:Nat):Prop where
 wf:Wf g G cm' op' pt' clk'
 old:∀ x,cm x≠0→cm' x=cm x
 pold:∀ x,cm x≠0→pt' x=pt x
 opx:∃ new,op'=op++new∧∀ x,x∈new→cm x=0
 vis:cm' n≠0
 clk_le:clk≤clk'
 newer:∀ x,cm x=0→cm' x≠0→clk<cm' x
 low_le:l≤cm' n
 low:(n∈op'∧∃ y,y∈op∧cm y=l∧Rch g n y)∨(n∉op'∧l=cm' n)
 low2:∀ x,x∈op'→cm x=0→∀ y,y∈op→Ld g x y→l≤cm y
structure Lp (g:List (qFm)) (G:Nat→Prop) (n:Nat) (cm0:Nat→Nat) (op0:List Nat) (pt0:Nat→Int) (clk0:Nat) (S:Nat→Prop) (cm:Nat→Nat) (op:List Nat) (pt:Nat→Int) (clk l:Nat):Prop where
 wf:Wf g (fun x=>G x∨x=n) cm op pt clk
 g0:∀ x,G x→x∈op0
 old:∀ x,cm0 x≠0→cm x=cm0 x
 pold:∀ x,cm0 x≠0→pt x=pt0 x
 new0:cm0 n=0
 clk_le:clk0≤clk
 newer:∀ x,cm0 x=0→cm x≠0→clk0<cm x
 opx:∃ new,op=op0++n::new∧∀ x,x∈new→cm0 x=0
 op0v:∀ x,x∈op0→cm0 x≠0
 gry0:∀ y,y∈op0→∃ x,G x∧cm0 x≤cm0 y∧Rch g y x
 low_le:l≤cm n
 low:∃ y,y∈op∧cm y=l∧Rch g n y
 low2:∀ x,x∈op→cm0 x=0→x≠n→∀ y,y∈op0→Ld g x y→l≤cm y
 low3:∀ y,S y→cm y≠0∧(y∈op0→l≤cm y)
def upd (f:Nat→Nat)(n v:Nat):Nat→Nat:=fun x=>if x=n then v else f x
theorem Wf.enter {g : List (qFm)}{G : Nat → Prop}{cm : Nat → Nat}{op : List Nat}{pt : Nat → Int}{n:Nat}(h : Wf g G cm op pt clk)(hn : cm n = 0)(hN : n < g.length)(hG : ∀ x, G x → Rch g x n) :
    Lp g G n cm op pt clk (fun _ => False) (upd cm n (clk + 1)) (op ++ [n]) pt (clk + 1) (clk + 1) := by
  have hpn : pt n < 0 := by
    by_cases hc : 0 ≤ pt n
    · exact absurd hn (h.ass n hc).1
    omega
  have hnop : n ∉ op := fun hm => ((h.op_iff n).1 hm).1 hn
  have hopne : ∀ x, x ∈ op → x ≠ n := fun x hx e => hnop (e ▸ hx)
  have un : upd cm n (clk + 1) n = clk + 1 := by unfold upd; simp
  have uo : ∀ x, x ≠ n → upd cm n (clk + 1) x = cm x := fun x hx => by grind [upd]
  have hg0 : ∀ x, G x → x ∈ op := h.gop
  have ton : ∀ x, x ∈ op → Rch g x n := fun x hx => by
    obtain ⟨z, hz, _, hr⟩ := h.gry x hx
    grind [qan]
  refine { wf := ?_, g0 := hg0, old := fun x hx => uo x (fun e => hx (e ▸ hn)), pold := fun x _ => rfl, new0 := hn, clk_le := Nat.le_succ _, newer := fun x hx hx' => ?_, opx := ⟨[], rfl, fun x hx => by grind⟩,
           op0v := fun x hx => ((h.op_iff x).1 hx).1, gry0 := h.gry, low_le := by omega, low := ⟨n, by simp, un, qh1 g n⟩, low2 := ?_, low3 := fun y hy => hy.elim }
  · refine { clk_le := fun x => ?_, op_iff := fun x => ?_, op_pw := ?_, gop := fun x hx => ?_, blk := fun x hx hg y hy => ?_, ass := fun x hx => ?_, rch := fun x hx y hy hxy => ?_, gry := fun y hy => ?_, inN := fun x hx => ?_ }
    · by_cases e : x = n
      · simp_all
      · rw [uo x e]; exact Nat.le_succ_of_le (h.clk_le x)
    · rw [qCr, qCI]
      by_cases e : x = n
      · simp_all
      · rw [uo x e, ← h.op_iff x]; simp_all
    · rw [qDE]
      refine ⟨h.op_pw.imp_of_mem fun {a b} ha hb hab => by simp_all, by simp, fun a ha b hb => ?_⟩
      rw [qCI] at hb
      rw [hb, un, uo a (hopne a ha)]
      have := h.clk_le a; omega
    · grind
    · have hxn : x ≠ n := fun e => hg (.inr e)
      rw [uo x hxn] at hx
      by_cases e : y = n
      · simp_all
      · rw [uo y e]; exact h.blk x hx (fun hh => hg (.inl hh)) y hy
    · have := h.ass x hx
      grind
    · rw [qCr, qCI] at hx hy
      rcases hx with hx | hx
      · rcases hy with hy | hy
        · rw [uo x (hopne x hx), uo y (hopne y hy)] at hxy
          exact h.rch x hx y hy hxy
        simp_all
      · rcases hy with hy | hy
        · rw [hx, un, uo y (hopne y hy)] at hxy
          have := h.clk_le y; omega
        grind [qh1]
    · rw [qCr, qCI] at hy
      rcases hy with hy | hy
      · obtain ⟨z, hz, h1, h2⟩ := h.gry y hy
        grind
      · exact ⟨n, .inr rfl, by simp_all, by grind [qh1]⟩
    · by_cases e : x = n
      · omega
      · rw [uo x e] at hx; exact h.inN x hx
  · grind
  · intro x hx hx0 hxn
    rw [qCr, qCI] at hx
    rcases hx with hx | hx
    · exact absurd hx0 ((h.op_iff x).1 hx).1
    omega
theorem Lp.nmem {g:List (qFm)}{G:Nat→Prop}{n:Nat}{op:List Nat}{pt:Nat→Int}{l:Nat}(h:Lp g G n cm0 op0 pt0 clk0 S cm op pt clk l):n∈op:=by
 obtain ⟨new,e,_⟩:=h.opx
 simp_all
theorem Lp.op0m {g:List (qFm)}{G:Nat→Prop}{n:Nat}{op:List Nat}{pt:Nat→Int}{l:Nat}(h:Lp g G n cm0 op0 pt0 clk0 S cm op pt clk l)(hx:x∈op0):x∈op:=by
 obtain ⟨new,e,_⟩:=h.opx
 simp_all
theorem Lp.op0n {g:List (qFm)}{G:Nat→Prop}{n:Nat}{op:List Nat}{pt:Nat→Int}{l:Nat}(h:Lp g G n cm0 op0 pt0 clk0 S cm op pt clk l)(hx:x∈op0):cm x<cm n:=by
 obtain ⟨new,e,_⟩:=h.opx
 have:=h.wf.op_pw
 simp_all [qDE]
theorem Lp.white {g : List (qFm)}{G : Nat → Prop}{n : Nat}{cm0 : Nat → Nat}{pt0 : Nat → Int}{S : Nat → Prop}{cm : Nat → Nat}{op : List Nat}{pt : Nat → Int}{l:Nat}(h : Lp g G n cm0 op0 pt0 clk0 S cm op pt clk l){to : Nat}(hl : Ld g n to)(hto : cm to = 0){cm' : Nat → Nat}{op' : List Nat}{pt' : Nat → Int}{clk' l2 : Nat}(hv : Vp g (fun x => G x ∨ x = n) to cm op pt clk cm' op' pt' clk' l2) : Lp g G n cm0 op0 pt0 clk0 (fun x => S x ∨ x = to) cm' op' pt' clk' (min l l2) := by
  have hvis : ∀ x, x ∈ op → cm x ≠ 0 := fun x hx => ((h.wf.op_iff x).1 hx).1
  have hc0 : ∀ x, cm0 x ≠ 0 → cm x ≠ 0 := fun x hx => by rw [h.old x hx]; omega
  obtain ⟨new, e1, e2⟩ := h.opx
  obtain ⟨new2, e3, e4⟩ := hv.opx
  have hsub : ∀ x, x ∈ op → x ∈ op' := fun x hx => by grind
  have hz : ∀ x, cm x = 0 → cm0 x = 0 := fun x hx => qEr fun hc => hc0 x hc hx
  have hn : cm' n = cm n := hv.old n (hvis n h.nmem)
  have hm : ∀ a b c : Nat, min a b ≤ c ↔ a ≤ c ∨ b ≤ c := fun a b c => by omega
  have hvv : ∀ x, cm x ≠ 0 → cm' x ≠ 0 := fun x hx => by rw [hv.old x hx]; omega
  refine { wf := hv.wf, g0 := h.g0, old := fun x hx => by rw [hv.old x (hc0 x hx)]; exact h.old x hx, pold := fun x hx => by rw [hv.pold x (hc0 x hx)]; exact h.pold x hx, new0 := h.new0,
           clk_le := qDf h.clk_le hv.clk_le, newer := fun x hx hx' => ?_,
           opx := ⟨new ++ new2, by simp_all, fun x hx => ?_⟩, op0v := h.op0v, gry0 := h.gry0, low_le := ?_, low := ?_, low2 := fun x hx hx0 hxn y hy hxy => ?_, low3 := fun y hy => ?_ }
  · by_cases hc : cm x = 0
    · have := hv.newer x hc hx'
      have := h.clk_le; omega
    · rw [hv.old x hc]; exact h.newer x hx hc
  · grind
  · rw [hn, hm]; exact .inl h.low_le
  · by_cases hc : l ≤ l2
    · obtain ⟨y, h1, h2, h3⟩ := h.low
      exact ⟨y, hsub y h1, by rw [hv.old y (hvis y h1), h2]; omega, h3⟩
    · rcases hv.low with ⟨_, y, h1, h2, h3⟩ | ⟨h1, h2⟩
      · exact ⟨y, hsub y h1, by rw [hv.old y (hvis y h1), h2]; omega, qan (qk5 hl) h3⟩
      · exfalso
        have a := hv.newer to hto hv.vis
        have b := h.wf.clk_le n
        have c := h.low_le
        omega
  · rw [hv.old y (hvis y (h.op0m hy)), hm]
    by_cases hc : cm x = 0
    · exact .inr (hv.low2 x hx hc y (h.op0m hy) hxy)
    · refine .inl (h.low2 x ?_ hx0 hxn y hy hxy)
      grind
  · rw [hm]
    rcases hy with hy | hy
    · refine ⟨hvv y (h.low3 y hy).1, fun h0 => .inl ?_⟩
      rw [hv.old y (h.low3 y hy).1]; exact (h.low3 y hy).2 h0
    · subst hy
      exact ⟨hv.vis, fun h0 => absurd hto (hc0 y (h.op0v y h0))⟩
theorem Lp.open {g:List (qFm)}{G:Nat→Prop}{n:Nat}{op:List Nat}{pt:Nat→Int}{l:Nat}(h:Lp g G n cm0 op0 pt0 clk0 S cm op pt clk l){to:Nat}(hl:Ld g n to)(hto:cm to≠0)(hp:pt to<0) :
  Lp g G n cm0 op0 pt0 clk0 (fun x=>S x∨x=to) cm op pt clk (min l (cm to)):=by
 have hm:∀ a b c:Nat,min a b≤c↔a≤c∨b≤c:=fun a b c=>by omega
 refine { h with low_le:=?_,low:=?_,low2:=fun x hx hx0 hxn y hy hxy=>?_,low3:=fun y hy=>?_ }
 ·rw[hm];exact .inl h.low_le
 ·by_cases hc:l≤cm to
  ·obtain ⟨y,h1,h2,h3⟩:=h.low
   grind
  ·exact ⟨to,(h.wf.op_iff to).2 ⟨hto,hp⟩,by omega,qk5 hl⟩
 ·rw[hm];exact .inl (h.low2 x hx hx0 hxn y hy hxy)
 ·rw[hm]
  rcases hy with hy | hy
  ·exact ⟨(h.low3 y hy).1,fun h0=>.inl ((h.low3 y hy).2 h0)⟩
  simp_all
theorem Lp.told {g:List (qFm)}{G:Nat→Prop}{n:Nat}{op:List Nat}{pt:Nat→Int}{l:Nat}(h:Lp g G n cm0 op0 pt0 clk0 S cm op pt clk l){to:Nat}(hto:cm to≠0)(hp:¬ pt to<0) :
  Lp g G n cm0 op0 pt0 clk0 (fun x=>S x∨x=to) cm op pt clk l:=by
 refine { h with low3:=fun y hy=>?_ }
 rcases hy with hy | hy
 ·exact h.low3 y hy
 ·subst hy
  exact ⟨hto,fun h0=>absurd ((h.wf.op_iff y).1 (h.op0m h0)).2 hp⟩
theorem Lp.stay {g : List (qFm)}{G : Nat → Prop}{n : Nat}{cm0 : Nat → Nat}{pt0 : Nat → Int}{S : Nat → Prop}{cm : Nat → Nat}{op : List Nat}{pt : Nat → Int}{l:Nat}(h : Lp g G n cm0 op0 pt0 clk0 S cm op pt clk l)(hS : ∀ y, Ld g n y → S y)(hl : l ≠ cm n) :
    Vp g G n cm0 op0 pt0 clk0 cm op pt clk l := by
  obtain ⟨new, e1, e2⟩ := h.opx
  have hlt : l < cm n := by have := h.low_le; omega
  have hvis : ∀ x, x ∈ op → cm x ≠ 0 := fun x hx => ((h.wf.op_iff x).1 hx).1
  have hback : ∃ y, y ∈ op0 ∧ cm y = l ∧ Rch g n y := by
    obtain ⟨y, h1, h2, h3⟩ := h.low
    refine ⟨y, ?_, h2, h3⟩
    rw [e1] at h1
    rcases qCr.1 h1 with h1 | h1
    · omega
    · exfalso
      have hpw := h.wf.op_pw
      grind [qC1]
  obtain ⟨y0, hy0, hy1, hy2⟩ := hback
  have hcm0 : ∀ x, x ∈ op0 → cm x = cm0 x := fun x hx => h.old x (h.op0v x hx)
  refine { wf := { h.wf with gop := fun x hx => h.wf.gop x (.inl hx), blk := fun x hx hg y hy => ?_, gry := fun y hy => ?_ }, old := h.old, pold := h.pold,
           opx := ⟨n :: new, e1, fun x hx => (qCu.1 hx).elim (fun e => e ▸ h.new0) (e2 x)⟩, vis := hvis n h.nmem, clk_le := h.clk_le, newer := h.newer, low_le := h.low_le, low := .inl ⟨h.nmem, y0, hy0, by simp_all, hy2⟩, low2 := fun x hx hx0 y hy hxy => ?_ }
  · by_cases e : x = n
    · subst e; exact (h.low3 y (hS y hy)).1
    · exact h.wf.blk x hx (fun hh => hh.elim hg e) y hy
  · obtain ⟨x, hx, h1, h2⟩ := h.wf.gry y hy
    rcases hx with hx | hx
    · grind
    · subst hx
      obtain ⟨z, hz, h3, h4⟩ := h.gry0 y0 hy0
      refine ⟨z, hz, ?_, qan h2 (qan hy2 h4)⟩
      rw [hcm0 z (h.g0 z hz)]
      grind
  · rw [← hcm0 y hy]
    by_cases e : x = n
    · subst e; exact (h.low3 y (hS y hxy)).2 hy
    · exact h.low2 x hx hx0 e y hy hxy
theorem Lp.close {g : List (qFm)}{G : Nat → Prop}{n : Nat}{cm0 : Nat → Nat}{pt0 : Nat → Int}{S : Nat → Prop}{cm : Nat → Nat}{op : List Nat}{pt : Nat → Int}{l:Nat}(h : Lp g G n cm0 op0 pt0 clk0 S cm op pt clk l)(hS : ∀ y, Ld g n y → S y)(hl : l = cm n){C : List Nat}(hC : op = op0 ++ C)(hn : n ∈ C)(hC0 : ∀ x, x ∈ C → cm0 x = 0)(hCn : ∀ x, x ∈ C → cm n ≤ cm x){least : Nat}(hm : least ∈ C)(hle : ∀ y, y ∈ C → least ≤ y) :
    Vp g G n cm0 op0 pt0 clk0 cm op0 (fun x => if x ∈ C then (least : Int) else pt x) clk l := by
  have hvis : ∀ x, x ∈ op → cm x ≠ 0 := fun x hx => ((h.wf.op_iff x).1 hx).1
  have hopen : ∀ x, x ∈ op → pt x < 0 := fun x hx => ((h.wf.op_iff x).1 hx).2
  have hop : ∀ x, x ∈ op ↔ x ∈ op0 ∨ x ∈ C := fun x => by simp_all
  have hcm0 : ∀ x, x ∈ op0 → cm x = cm0 x := fun x hx => h.old x (h.op0v x hx)
  have hdis : ∀ x, x ∈ C → x ∉ op0 := fun x hx hx0 => h.op0v x hx0 (hC0 x hx)
  have hC1 : ∀ y, y ∈ C → Sc g n y := by
    intro y hy
    have hyo := (hop y).2 (.inr hy)
    refine ⟨h.wf.rch n h.nmem y hyo (hCn y hy), ?_⟩
    obtain ⟨z, hz, h1, h2⟩ := h.wf.gry y hyo
    rcases hz with hz | hz
    · have hz0 := h.g0 z hz
      exact qan h2 (h.wf.rch z (h.op0m hz0) n h.nmem (Nat.le_of_lt (h.op0n hz0)))
    simp_all
  have hC2 : ∀ k x y, Wk g k x y → x ∈ C → Rch g y n → y ∈ C := by
    intro k
    induction k with
    | zero => intro x y hw hx _; exact (show x = y from hw) ▸ hx
    | succ k ih =>
      rintro x y ⟨u, hxu, huy⟩ hx hyn
      refine ih u y huy ?_ hyn
      have hun : Rch g u n := qan ⟨k, huy⟩ hyn
      have hxo := (hop x).2 (.inr hx)
      have huv : cm u ≠ 0 := by
        by_cases e : x = n
        · subst e; exact (h.low3 u (hS u hxu)).1
        · refine h.wf.blk x (hvis x hxo) (fun hh => ?_) u hxu
          rcases hh with hh | hh
          · exact hdis x hx (h.g0 x hh)
          omega
      have hup : pt u < 0 := by
        refine qEr fun hc => ?_
        have ha := h.wf.ass u (by omega)
        have := (ha.2.2 n ⟨hun, qan (hC1 x hx).1 (qk5 hxu)⟩).1
        grind
      rcases (hop u).1 ((h.wf.op_iff u).2 ⟨huv, hup⟩) with hu0 | hu0
      · exfalso
        have hlt := h.op0n hu0
        by_cases e : x = n
        · subst e
          have := (h.low3 u (hS u hxu)).2 hu0; omega
        · have := h.low2 x hxo (hC0 x hx) e u hu0 hxu; omega
      omega
  have hmax : ∀ x y, x ∈ C → Sc g x y → y ∈ C := fun x y hx hxy => by
    obtain ⟨k, hk⟩ := hxy.1
    exact hC2 k x y hk hx (qan hxy.2 (hC1 x hx).2)
  refine { wf := { clk_le := h.wf.clk_le, op_iff := fun x => ?_, op_pw := ?_, gop := h.g0, blk := fun x hx hg y hy => ?_, ass := fun x hx => ?_, rch := fun x hx y hy => h.wf.rch x (h.op0m hx) y (h.op0m hy), gry := fun y hy => ?_, inN := h.wf.inN },
           old := h.old, pold := fun x hx => ?_, opx := ⟨[], by simp, fun x hx => by grind⟩, vis := hvis n h.nmem, clk_le := h.clk_le, newer := h.newer, low_le := h.low_le, low := .inr ⟨hdis n hn, hl⟩, low2 := fun x hx hx0 => absurd hx0 (h.op0v x hx) }
  · show _ ↔ cm x ≠ 0 ∧ (if x ∈ C then (least : Int) else pt x) < 0
    by_cases hx : x ∈ C
    · simp_all
    · rw [if_neg hx, ← h.wf.op_iff x, hop]
      simp_all
  · have := h.wf.op_pw
    grind
  · by_cases e : x = n
    · subst e; exact (h.low3 y (hS y hy)).1
    · exact h.wf.blk x hx (fun hh => hh.elim hg e) y hy
  · show cm x ≠ 0 ∧ Sc g x (if x ∈ C then (least : Int) else pt x).toNat ∧ ∀ y, Sc g x y → (if y ∈ C then (least : Int) else pt y) = (if x ∈ C then (least : Int) else pt x) ∧ (if x ∈ C then (least : Int) else pt x) ≤ (y : Int)
    have hx : 0 ≤ (if x ∈ C then (least : Int) else pt x) := hx
    by_cases hxC : x ∈ C
    · simp only [if_pos hxC, qCs]
      refine ⟨hvis x ((hop x).2 (.inr hxC)), qjL (qoU (hC1 x hxC)) (hC1 least hm), fun y hy => ?_⟩
      grind
    · rw [if_neg hxC] at hx
      simp only [if_neg hxC]
      have ha := h.wf.ass x hx
      grind
  · obtain ⟨z, hz, h1, h2⟩ := h.gry0 y hy
    exact ⟨z, hz, by rw [hcm0 z (h.g0 z hz), hcm0 y hy]; omega, h2⟩
  · show (if x ∈ C then (least : Int) else pt x) = pt0 x
    rw [if_neg (fun hxC => hx (hC0 x hxC))]
    exact h.pold x hx
theorem Wf.empty {g:List (qFm)}{op:List Nat}{pt:Nat→Int}(h:Wf g (fun _=>False) cm op pt clk):op=[]:=by
 cases op with
 | nil=>rfl
 | cons x op =>
  obtain ⟨z,hz,_⟩:=h.gry x (by simp)
  simp_all
structure StrOk (g:List (qFm)) (p:qFm):Prop where
 len:p.length=g.length
 le:∀ t,t<g.length→0≤gD p t∧gD p t≤t
 sc:∀ t,t<g.length→Sc g t (gD p t).toNat
 least:∀ t u,t<g.length→Sc g t u→gD p t≤u
theorem StrOk.uni {g:List (qFm)}{q:qFm}(h:StrOk g p)(h':StrOk g q):p=q:=by
 refine qor (by rw[h.len,h'.len]) fun t ht=>?_
 rw[h.len] at ht
 have a:=h.least t _ ht (h'.sc t ht)
 have b:=h'.least t _ ht (h.sc t ht)
 have c:=h.le t ht
 have d:=h'.le t ht
 omega
theorem StrOk.iff {g:List (qFm)}(h:StrOk g p)(hs:s<g.length)(ht:t<g.length):gD p s=gD p t↔Sc g s t:=by
 constructor
 ·intro e
  have a:=h.sc s hs
  rw[e] at a
  exact qjL a (qoU (h.sc t ht))
 ·intro e
  have a:=h.least s _ hs (qjL e (h.sc t ht))
  have b:=h.least t _ ht (qjL (qoU e) (h.sc s hs))
  have c:=h.le s hs
  have d:=h.le t ht
  omega
theorem qrH (a b:Nat):imin (a:Int) (b:Int)=((min a b:Nat):Int):=by grind [imin]
def ti (n:Nat)(f:Nat→Int):qFm:=(qCL n).map f
def tl (n:Nat)(f:Nat→Nat):qFm:=ti n fun i=>(f i:Int)
theorem qgN (n:Nat)(f:Nat→Int):(ti n f).length=n:=by simp[ti]
theorem qhr {n:Nat}{f:Nat→Int}{i:Nat}(h:i<n):(ti n f)[i]?=some (f i):=by simp[ti,h]
theorem qhs {n:Nat}{f:Nat→Nat}{i:Nat}(h:i<n):(tl n f)[i]?=some (f i:Int):=qhr h
theorem qt5 {n:Nat}{f:Nat→Int}{i:Nat}(h:i<n):gD (ti n f) i=f i:=by grind [gD,qhr]
theorem qpd {n:Nat}{f:Nat→Int}{i:Nat}{v:Int}:(ti n f).set i v=ti n fun x=>if x=i then v else f x:=by
 apply qDb
 grind [qgN,qhr]
theorem qjX {n:Nat}{f h:Nat→Int}(e:∀ x,x<n→f x=h x):ti n f=ti n h:=by
 grind [ti,qDG]
theorem qsv {n:Nat}{f:Nat→Nat}{i v:Nat}:(tl n f).set i (v:Int)=tl n (upd f i v):=by
 grind [tl,qpd,upd]
theorem qya (n:Nat)(v:Int):qCo n v=ti n fun _=>v:=by
 apply qDb
 grind [qhr,qgN]
def wh (n:Nat)(cm:Nat→Nat):Nat:=((qCL n).filter fun x=>decide (cm x=0)).length
theorem qzV {n:Nat}{cm':Nat→Nat}(h:∀ x,cm x≠0→cm' x≠0):wh n cm'≤wh n cm:=by
 unfold wh
 refine qfW (List.nodup_range.filter _:List.Pairwise _ _) fun x hx=>?_
 grind
theorem qBE {n i v:Nat}(hi:i<n)(h0:cm i=0)(hv:v≠0):wh n (upd cm i v)+1≤wh n cm:=by
 unfold wh
 have:=qfW (L:=i::(qCL n).filter fun x=>decide (upd cm i v x=0)) (M:=(qCL n).filter fun x=>decide (cm x=0)) (by
  refine qDw.2 ⟨fun hm=>?_,(List.nodup_range.filter _:List.Pairwise _ _)⟩
  have:=(qDy.1 hm).2
  simp only[decide_eq_true_eq] at this
  unfold upd at this
  simp_all) (fun x hx=>by
  rcases qCu.1 hx with rfl | hx
  ·simp_all
  ·have hx:=qDy.1 hx
   refine qDy.2 ⟨hx.1,?_⟩
   simp only[decide_eq_true_eq] at hx ⊢
   grind [upd])
 omega
theorem Wf.op_len {g:List (qFm)}{G:Nat→Prop}{op:List Nat}{pt:Nat→Int}(h:Wf g G cm op pt clk):op.length≤g.length:=by
 have hnd:op.Nodup:=h.op_pw.imp fun {a b} hab e=>by simp_all
 have:=qfW (M:=qCL g.length) hnd fun x hx=>qDA.2 (h.inN x ((h.op_iff x).1 hx).1)
 simp_all
def mn (l:qFm)(m:Int):Int:=l.foldl imin m
theorem qAg {F:Nat}{l:qFm}(hm:l.length≤1000000):∀ (k i:Nat) (m:Int),l.length<k+i→i≤l.length→qaf F l k (m,(i:Int))=some (mn (l.drop i) m)
 | 0,_,_,_,_=>by omega
 | k+1,i,m,h,hi=>by
  show qae F l (qaf F l k) m (i:Int)=_
  unfold qae
  by_cases hlt:i<l.length
  ·rw[if_pos (by simp_all),qj,qCn hlt]
   simp only[qCm]
   rw[qn (by omega),qAg hm k (i+1) (imin m l[i]) (by omega) (by omega),qCw hlt]
   rfl
  ·rw[if_neg (by simp_all),qCB (by omega)]
   rfl
theorem qAh:∀ (L:List Nat) (m:Nat),∃ x:Nat,mn (iz L) (m:Int)=(x:Int)∧(x=m∨x∈L)∧x≤m∧∀ y,y∈L→x≤y
 | [],m=>⟨m,rfl,.inl rfl,qCE _,fun y hy=>by simp at hy⟩
 | a::L,m=>by
  obtain ⟨x,h1,h2,h3,h4⟩:=qAh L (min m a)
  refine ⟨x,?_,?_,by omega,fun y hy=>?_⟩
  ·show mn (iz L) (imin (m:Int) (a:Int))=_
   rw[qrH];exact h1
  ·rcases h2 with h2 | h2
   ·by_cases hc:m≤a
    ·left;omega
    ·right;exact qCu.2 (.inl (by omega))
   ·exact .inr (qCu.2 (.inr h2))
  ·rcases qCu.1 hy with rfl | hy
   ·omega
   ·exact h4 y hy
theorem qA6 {C:List Nat}(hF:C.length<F)(hm:C.length≤1000)(h0:C≠[]):∃ x:Nat,jI F (iz C)=some (x:Int)∧x∈C∧∀ y,y∈C→x≤y:=by
 cases C with
 | nil=>exact absurd rfl h0
 | cons a C =>
  obtain ⟨x,h1,h2,h3,h4⟩:=qAh C a
  refine ⟨x,?_,?_,fun y hy=>?_⟩
  ·unfold jI
   rw[if_neg (by simp[iz];omega)]
   have e0:idx (iz (a::C)) 0=some (a:Int):=rfl
   rw[e0]
   simp only[qCm]
   have:=qAg (F:=F) (l:=iz (a::C)) (by rw[qdK];omega) F 1 (a:Int) (by rw[qdK];omega) (by simp[iz])
   rw[show ((1:Nat):Int)=1 from rfl] at this
   rw[this]
   have e:(iz (a::C)).drop 1=iz C:=rfl
   rw[e,h1]
  ·rcases h2 with h2 | h2
   ·rw[h2];simp
   ·exact qCu.2 (.inr h2)
  ·rcases qCu.1 hy with rfl | hy
   ·exact h3
   ·exact h4 y hy
theorem qoz {F:Nat}{l:qFm}{v:Int}{p:Nat}(hm:l.length≤1000000)(hp:l[p]?=some v)(hno:∀ j,j<p→l[j]?≠some v):∀ (k i:Nat),l.length<k+i→i≤p→qZ F l v k (i:Int)=some (p:Int)
 | 0,i,h,hi=>by
  grind
 | k+1,i,h,hi=>by
  have hpl:=(qCx.1 hp).1
  show qY F l v (qZ F l v k) (i:Int)=_
  unfold qY
  rw[if_pos (by grind),qj,qCn (by omega)]
  simp only[qCm]
  by_cases e:i=p
  ·simp_all
  ·have:=hno i (by omega)
   rw[qCn (by omega)] at this
   rw[if_neg (by grind),qn (by omega)]
   exact qoz hm hp hno k (i+1) (by omega) (by omega)
theorem qsT {F n:Nat}{cmL lwL op:qFm}{C:List Nat}{i:Nat}{pt:Nat→Int}{clk least:Int}(hop:op.drop i=iz C)(hi:i≤op.length)(hm:op.length≤1000)(hC:∀ x,x∈C→x<n):∀ (k j:Nat),C.length<k+j→j≤C.length →
  jU F cmL lwL op clk (i:Int) least k ((j:Int),ti n fun x=>if x∈C.take j then least else pt x)=some (cmL,lwL,op.take i,ti n (fun x=>if x∈C then least else pt x),clk)
 | 0,_,_,_=>by omega
 | k+1,j,h,hj=>by
  have hCl:C.length=op.length-i:=by
   have:=congrArg List.length hop
   grind [qdK]
  show jS F cmL lwL op clk (i:Int) least (jU F cmL lwL op clk (i:Int) least k) (j:Int) (ti n fun x=>if x∈C.take j then least else pt x)=_
  unfold jS
  rw[qCs]
  by_cases hlt:j<C.length
  ·have hcj:=hC C[j] (qCG hlt)
   rw[if_pos (by grind),hop,qj,qwk hlt]
   simp only[qCm]
   have hgd:C.getD j 0=C[j]:=by grind
   rw[hgd,qj,qhr hcj]
   simp only[qCm]
   unfold lett
   rw[qCs,qpd,qn (by omega)]
   have e:(ti n fun x=>if x=C[j] then least else if x∈C.take j then least else pt x)=ti n fun x=>if x∈C.take (j+1) then least else pt x:=by
    refine qjX fun x _=>?_
    rw[jp hlt]
    grind
   rw[e]
   exact qsT hop hi hm hC k (j+1) (by omega) (by omega)
  ·rw[if_neg (by simp_all)]
   unfold jT
   have es:sub op 0 (i:Int)=some (op.take i):=by
    have:=qkP (l:=op) (i:=0) (j:=i) (by omega) hi
    simp_all
   grind
theorem qvE {N n:Nat}{g:List (qFm)}{cmL lwL:qFm}{C:List Nat}{pt:Nat→Int}{clk:Int}(hF:2000≤F)(hn:C.head?=some n)(hn0:n∉op0)(hm:(op0++C).length≤1000)(hC:∀ x,x∈C→x<N) :
  ∃ least:Nat,je F g cmL lwL (iz (op0++C)) (ti N pt) clk (n:Int)=some (cmL,lwL,iz op0,ti N (fun x=>if x∈C then (least:Int) else pt x),clk)∧least∈C∧∀ y,y∈C→least≤y:=by
 obtain ⟨C',rfl⟩:∃ C',C=n::C':=by
  cases C with
  | nil=>grind
  | cons a C'=>simp_all
 have happ:iz (op0++n::C')=iz op0++iz (n::C'):=by simp[iz]
 have hdrop:(iz (op0++n::C')).drop op0.length=iz (n::C'):=by grind [qdK]
 rw[qCt] at hm
 simp only[qCH] at hm
 obtain ⟨least,e1,e2,e3⟩:=qA6 (F:=F) (C:=n::C') (by grind) (by grind) (by simp)
 refine ⟨least,?_,e2,e3⟩
 have hil:(iz (op0++n::C')).length=op0.length+(C'.length+1):=by grind [qdK]
 have hix:=qoz (F:=F) (l:=iz (op0++n::C')) (v:=(n:Int)) (p:=op0.length) (by omega) (by rw[happ,List.getElem?_append_right (by grind),qdK,Nat.sub_self];rfl) (fun j hj=>by
  grind [qdK,qwk]) F 0 (by omega) (by omega)
 rw[show ((0:Nat):Int)=0 from rfl] at hix
 unfold je zB
 rw[hix]
 simp only[qCm]
 unfold chk
 rw[if_pos (by grind),qCs,hdrop,e1]
 simp only[qCm]
 have:=qsT (F:=F) (n:=N) (cmL:=cmL) (lwL:=lwL) (op:=iz (op0++n::C')) (C:=n::C') (i:=op0.length) (pt:=pt) (clk:=clk) (least:=(least:Int)) hdrop (by omega) (by omega) hC F 0 (by grind) (by omega)
 rw[show ((0:Nat):Int)=0 from rfl] at this
 grind [qjX,qdK]
def VOk (g:List (qFm))(V:(List (qFm))→(qFm)→(qFm)→(qFm)→(qFm)→Int→Int→Option (qFm×qFm×qFm×qFm×Int))(d:Nat):Prop :=
 ∀ (G:Nat→Prop) (cm lw:Nat→Nat) (op:List Nat) (pt:Nat→Int) (clk n:Nat),Wf g G cm op pt clk→cm n=0→n<g.length→(∀ x,G x→Rch g x n)→wh g.length cm≤d→clk+wh g.length cm≤1000 →
  ∃ (cm' lw':Nat→Nat) (op':List Nat) (pt':Nat→Int) (clk':Nat),V g (tl g.length cm) (tl g.length lw) (iz op) (ti g.length pt) (clk:Int) (n:Int)=some (tl g.length cm',tl g.length lw',iz op',ti g.length pt',(clk':Int)) ∧
   Vp g G n cm op pt clk cm' op' pt' clk' (lw' n)∧(∀ x,cm x≠0→lw' x=lw x)∧clk'+wh g.length cm'≤clk+wh g.length cm
theorem qk9 {F n d clk0:Nat}{g:List (qFm)}{G:Nat→Prop}{cm0 lw0:Nat→Nat}{op0:List Nat}{pt0:Nat→Int}{r:qFm}{V:(List (qFm))→(qFm)→(qFm)→(qFm)→(qFm)→Int→Int→Option (qFm×qFm×qFm×qFm×Int)}(hF:2000≤F)(hg:Gr g)(hV:VOk g V d)(hr:g[n]?=some r)(hGn:∀ x,G x→Rch g x n):∀ (k j:Nat) (cm lw:Nat→Nat) (op:List Nat) (pt:Nat→Int) (clk:Nat),r.length<k+j→j≤r.length →
  Lp g G n cm0 op0 pt0 clk0 (fun y=>(y:Int)∈r.take j) cm op pt clk (lw n)→wh g.length cm≤d→clk+wh g.length cm≤1000→(∀ x,cm0 x≠0→lw x=lw0 x) →
  ∃ (cm' lw':Nat→Nat) (op':List Nat) (pt':Nat→Int) (clk':Nat),zp F V g (n:Int) r k ((j:Int),tl g.length cm,tl g.length lw,iz op,ti g.length pt,(clk:Int))=some (tl g.length cm',tl g.length lw',iz op',ti g.length pt',(clk':Int)) ∧
   Vp g G n cm0 op0 pt0 clk0 cm' op' pt' clk' (lw' n)∧(∀ x,cm0 x≠0→lw' x=lw0 x)∧clk'+wh g.length cm'≤clk+wh g.length cm
 | 0,_,_,_,_,_,_,_,_,_,_,_,_=>by omega
 | k+1,j,cm,lw,op,pt,clk,h,hj,hL,hd,hc,hlw=>by
  have h100:=hg.1
  have hrm:=qCq hr
  have hrl:=qca hg hrm
  have hrx:=(hg.2.1 r hrm).2
  have hnN:n<g.length:=(qCx.1 hr).1
  have hop:=hL.wf.op_len
  have hstep:zp F V g (n:Int) r (k+1) ((j:Int),tl g.length cm,tl g.length lw,iz op,ti g.length pt,(clk:Int))=yX F V g (n:Int) r (zp F V g (n:Int) r k) (j:Int) (tl g.length cm) (tl g.length lw) (iz op) (ti g.length pt) (clk:Int):=rfl
  rw[hstep]
  unfold yX
  by_cases hlt:j<r.length
  ·have hx:=hrx r[j] (qCG hlt)
   obtain ⟨x,hx1⟩:=qCp hx.1
   have hxN:x<g.length:=by omega
   have hld:Ld g n x:=qfU.2 ⟨r,hr,by grind⟩
   have hS:∀ {S:Nat→Prop} {cm:Nat→Nat} {op:List Nat} {pt:Nat→Int} {clk l:Nat},S=(fun (y:Nat)=>(y:Int)∈r.take j)→Lp g G n cm0 op0 pt0 clk0 (fun y=>S y∨y=x) cm op pt clk l→Lp g G n cm0 op0 pt0 clk0 (fun y=>(y:Int)∈r.take (j+1)) cm op pt clk l:=by
    grind [jp]
   rw[if_pos (by simp_all),qj,qCn hlt,hx1]
   simp only[qCm]
   rw[qj,qhs hxN]
   simp only[qCm]
   by_cases h0:cm x=0
   ·
    have hR:∀ y,(G y∨y=n)→Rch g y x:=fun y hy=>by
     grind [qan,qk5]
    obtain ⟨cm',lw',op',pt',clk',e1,e2,e3,e4⟩:=hV (fun y=>G y∨y=n) cm lw op pt clk x hL.wf h0 hxN hR hd hc
    rw[if_pos (by grind),e1]
    simp only[qCm]
    rw[qj,qhs hnN]
    simp only[qCm]
    rw[qj,qhs hxN]
    simp only[qCm]
    unfold lett
    rw[qrH,qCs,qsv]
    unfold zF
    rw[qn (by omega)]
    have hncm:cm n≠0:=((hL.wf.op_iff n).1 hL.nmem).1
    have hln:lw' n=lw n:=e3 n hncm
    have hL2:=hS rfl (hL.white hld h0 e2)
    have hwm:wh g.length cm'≤wh g.length cm:=qzV fun y hy=>by rw[e2.old y hy];omega
    have hun:upd lw' n (min (lw' n) (lw' x)) n=min (lw n) (lw' x):=by unfold upd;simp_all
    obtain ⟨cm2,lw2,op2,pt2,clk2,f1,f2,f3,f4⟩:=qk9 (lw0:=lw0) hF hg hV hr hGn k (j+1) cm' (upd lw' n (min (lw' n) (lw' x))) op' pt' clk' (by omega) (by omega) (by rw[hun];exact hL2) (by omega) (by omega) (fun y hy=>by
     have hyn:y≠n:=fun e=>hy (e▸hL.new0)
     unfold upd
     rw[if_neg hyn,e3 y (by rw[hL.old y hy];omega)]
     simp_all)
    grind
   ·rw[if_neg (by simp_all),qj,qhr hxN]
    simp only[qCm]
    by_cases hp:pt x<0
    ·rw[if_pos (by grind),qj,qhs hnN]
     simp only[qCm]
     unfold lett
     rw[qrH,qCs,qsv]
     unfold zF
     rw[qn (by omega)]
     have hun:upd lw n (min (lw n) (cm x)) n=min (lw n) (cm x):=by unfold upd;simp
     exact qk9 (lw0:=lw0) hF hg hV hr hGn k (j+1) cm (upd lw n (min (lw n) (cm x))) op pt clk (by omega) (by omega) (by rw[hun];exact hS rfl (hL.open hld h0 hp)) hd hc (fun y hy=>by
      have hyn:y≠n:=fun e=>hy (e▸hL.new0)
      grind [upd])
    ·rw[if_neg (by grind)]
     unfold zF
     rw[qn (by omega)]
     exact qk9 (lw0:=lw0) hF hg hV hr hGn k (j+1) cm lw op pt clk (by omega) (by omega) (hS rfl (hL.told h0 hp)) hd hc hlw
  ·have hall:∀ y,Ld g n y→(y:Int)∈r.take j:=fun y hy=>by
    obtain ⟨r',hr',hy'⟩:=qfU.1 hy
    grind
   rw[if_neg (by simp_all)]
   unfold jV
   rw[qj,qhs hnN]
   simp only[qCm]
   rw[qj,qhs hnN]
   simp only[qCm]
   by_cases hl:lw n=cm n
   ·obtain ⟨new,o1,o2⟩:=hL.opx
    have hC0:∀ x,x∈n::new→cm0 x=0:=fun x hx=>(qCu.1 hx).elim (fun e=>e▸hL.new0) (o2 x)
    have hCo:∀ x,x∈n::new→x∈op:=fun x hx=>by simp_all
    have hCn:∀ x,x∈n::new→cm n≤cm x:=fun x hx=>by
     rcases qCu.1 hx with e | hx
     ·simp_all
     ·have:=hL.wf.op_pw
      grind [qC1]
    obtain ⟨least,c1,c2,c3⟩:=qvE (F:=F) (N:=g.length) (n:=n) (g:=g) (cmL:=tl g.length cm) (lwL:=tl g.length lw) (op0:=op0) (C:=n::new) (pt:=pt) (clk:=(clk:Int)) hF rfl (fun hm=>hL.op0v n hm hL.new0) (by grind) (fun x hx=>hL.wf.inN x ((hL.wf.op_iff x).1 (hCo x hx)).1)
    rw[if_pos (by grind),o1,c1]
    simp only[qCm]
    refine ⟨cm,lw,op0,_,clk,rfl,?_,hlw,qCE _⟩
    exact hL.close hall hl o1 (by simp) hC0 hCn c2 c3
   ·rw[if_neg (by grind)]
    exact ⟨cm,lw,op,pt,clk,rfl,hL.stay hall hl,hlw,qCE _⟩
theorem qq2 {g:List (qFm)}(hg:Gr g):∀ (d F:Nat),2001+d≤F→VOk g (q6 F) d
 | d,0,hF=>by omega
 | d,F+1,hF=>by
  intro G cm lw op pt clk n hwf hn hN hG hd hc
  have h100:=hg.1
  have hop:=hwf.op_len
  have hr:g[n]?=some g[n]:=qCn hN
  have hrl:=qca hg (qCG hN)
  have hwu:=qBE (cm:=cm) (v:=clk+1) hN hn (by omega)
  obtain ⟨d',rfl⟩:=qDS (show d≠0 by omega)
  have hV:=qq2 hg d' F (by omega)
  have hun:upd lw n (clk+1) n=clk+1:=by unfold upd;simp
  have hent:=hwf.enter hn hN hG
  have hL:Lp g G n cm op pt clk (fun y=>(y:Int)∈(g[n]).take 0) (upd cm n (clk+1)) (op++[n]) pt (clk+1) (upd lw n (clk+1) n):=by
   simp_all
  obtain ⟨cm',lw',op',pt',clk',e1,e2,e3,e4⟩:=qk9 (F:=F) (lw0:=lw) (by omega) hg hV hr hG F 0 (upd cm n (clk+1)) (upd lw n (clk+1)) (op++[n]) pt (clk+1) (by omega) (by omega) hL (by omega) (by omega) (fun x hx=>by
   grind [upd])
  refine ⟨cm',lw',op',pt',clk',?_,e2,e3,by omega⟩
  rw[← e1]
  show ((idx (tl g.length cm) (n:Int)).bind fun _x33=>((idx (tl g.length lw) (n:Int)).bind fun _x37=>(lett ((tl g.length cm).set ((n:Int)).toNat (iadd .i64 (clk:Int) 1)) fun x41=>(lett ((tl g.length lw).set ((n:Int)).toNat (iadd .i64 (clk:Int) 1)) fun x44=>((app 8796093022208 (iz op) ([(n:Int)]:qFm)).bind fun x49=>((idx g (n:Int)).bind fun x455=>zp F (q6 F) g (n:Int) x455 F (0,x41,x44,x49,ti g.length pt,iadd .i64 (clk:Int) 1)))))))=_
  rw[qj,qhs hN]
  simp only[qCm]
  grind [qj,qhs,ko,lett,iz,qn,qCs,qsv]
theorem qmb {F:Nat}{g:List (qFm)}(hF:4000≤F)(hg:Gr g):∀ (k s:Nat) (cm lw:Nat→Nat) (pt:Nat→Int) (clk:Nat),g.length<k+s→s≤g.length→Wf g (fun _=>False) cm [] pt clk→clk+wh g.length cm≤1000→(∀ x,x<s→cm x≠0) →
  ∃ p,jJ F g k ((s:Int),tl g.length cm,tl g.length lw,([]:qFm),ti g.length pt,(clk:Int))=some p∧StrOk g p
 | 0,_,_,_,_,_,_,_,_,_,_=>by omega
 | k+1,s,cm,lw,pt,clk,h,hs,hwf,hc,hv=>by
  have h100:=hg.1
  have hstep:jJ F g (k+1) ((s:Int),tl g.length cm,tl g.length lw,([]:qFm),ti g.length pt,(clk:Int))=qdD F g (jJ F g k) (s:Int) (tl g.length cm) (tl g.length lw) [] (ti g.length pt) (clk:Int):=rfl
  rw[hstep]
  unfold qdD
  by_cases hlt:s<g.length
  ·rw[if_pos (by simp_all),qj,qhs hlt]
   simp only[qCm]
   by_cases h0:cm s=0
   ·have hwl:wh g.length cm≤g.length:=by
     grind [wh]
    obtain ⟨cm',lw',op',pt',clk',e1,e2,e3,e4⟩:=qq2 hg g.length F (by omega) (fun _=>False) cm lw [] pt clk s hwf h0 hlt (fun x hx=>hx.elim) hwl hc
    have hop:=e2.wf.empty
    subst hop
    have e1':q6 F g (tl g.length cm) (tl g.length lw) [] (ti g.length pt) (clk:Int) (s:Int)=some (tl g.length cm',tl g.length lw',iz [],ti g.length pt',(clk':Int)):=e1
    rw[if_pos (by grind),e1']
    simp only[qCm]
    unfold vT
    rw[qn (by omega)]
    refine qmb hF hg k (s+1) cm' lw' pt' clk' (by omega) (by omega) e2.wf (by omega) fun x hx=>?_
    by_cases e:x=s
    ·rw[e];exact e2.vis
    ·have:=hv x (by omega)
     rw[e2.old x this];omega
   ·rw[if_neg (by simp_all)]
    unfold vT
    rw[qn (by omega)]
    refine qmb hF hg k (s+1) cm lw pt clk (by omega) (by omega) hwf hc fun x hx=>?_
    grind
  ·rw[if_neg (by simp_all)]
   refine ⟨_,rfl,?_⟩
   have hpos:∀ t,t<g.length→0≤pt t:=fun t ht=>by
    have:=hwf.op_iff t
    grind
   refine ⟨qgN _ _,fun t ht=>?_,fun t ht=>?_,fun t u ht htu=>?_⟩
   ·rw[qt5 ht]
    exact ⟨hpos t ht,((hwf.ass t (hpos t ht)).2.2 t (qzi g t)).2⟩
   ·rw[qt5 ht]
    exact (hwf.ass t (hpos t ht)).2.1
   ·rw[qt5 ht]
    exact ((hwf.ass t (hpos t ht)).2.2 u htu).2
theorem qnv {g:List (qFm)}(hF:4000≤F)(hg:Gr g):∃ p,qag F g=some p∧StrOk g p:=by
 have h100:=hg.1
 unfold qag
 have hmk:mk 17592186044416 (0:Int) (g.length:Int)=some (qCo g.length 0):=by
  grind [mk]
 rw[hmk,qxa (by omega) hg.1]
 simp only[qCm]
 unfold qdE
 have hwf:Wf g (fun _=>False) (fun _=>0) [] (fun _=>-1) 0:=by
  refine { clk_le:=fun x=>qCE _,op_iff:=fun x=>by simp,op_pw:=qEW,gop:=fun x hx=>hx.elim,blk:=fun x hx=>absurd rfl hx,ass:=fun x hx=>by omega,rch:=fun x hx=>by simp,gry:=fun x hx=>by grind,inN:=fun x hx=>absurd rfl hx }
 have hwl:wh g.length (fun _=>0)≤g.length:=by
  grind [wh]
 obtain ⟨p,e1,e2⟩:=qmb (F:=F) hF hg F 0 (fun _=>0) (fun _=>0) (fun _=>-1) 0 (by omega) (by omega) hwf (by omega) (fun x hx=>by omega)
 refine ⟨p,?_,e2⟩
 rw[← e1,qya,qya]
 rfl
def spartL (g:List (qFm)):qFm:=(qag 4000 g).getD []
theorem qg0 {g:List (qFm)}(hg:Gr g):StrOk g (spartL g):=by
 obtain ⟨p,h1,h2⟩:=qnv (F:=4000) (qCE _) hg
 grind [spartL]
theorem quX {g:List (qFm)}(hF:4000≤F)(hg:Gr g):qag F g=some (spartL g):=by
 obtain ⟨p,h1,h2⟩:=qnv hF hg
 rw[h1,h2.uni (qg0 hg)]
def spartM (g:List (qFm)):qFm×Int:=if gchk g≠0 then ([],gchk g) else (spartL g,0)
theorem quT {g:List (qFm)}(hF:4000≤F):qdC F g=some (spartM g):=by
 grind [qdC,spartM,yY,quX,yi]
theorem qw2:∀ {A B:qFm},A.Pairwise (·<·)→B.Pairwise (·<·)→(∀ z,z∈A↔z∈B)→A=B
 | [],[],_,_,_=>rfl
 | [],s::B,_,_,h=>by have:=(h s).2 (by simp);simp at this
 | r::A,[],_,_,h=>by have:=(h r).1 (by simp);simp at this
 | r::A,s::B,hA,hB,h=>by
  obtain ⟨fA,pA⟩:=qC1.1 hA
  obtain ⟨fB,pB⟩:=qC1.1 hB
  have hrs:r=s:=by
   rcases qCu.1 ((h r).1 (by simp)) with h1 | h1
   ·exact h1
   ·rcases qCu.1 ((h s).2 (by simp)) with h2 | h2
    ·exact h2.symm
    ·have:=fA s h2;have:=fB r h1;omega
  subst hrs
  congr 1
  refine qw2 pA pB fun x=>⟨fun hx=>?_,fun hx=>?_⟩
  ·rcases qCu.1 ((h x).1 (by simp[hx])) with h1 | h1
   ·subst h1;have:=fA x hx;omega
   ·exact h1
  ·rcases qCu.1 ((h x).2 (by simp[hx])) with h1 | h1
   ·subst h1;have:=fB x hx;omega
   ·exact h1
theorem qyX {x y:Int}:qc9 F x y=some (decide (x<y)):=by
 grind [qc9,vw,qbw]
theorem qyS {i j:Nat}(h:i+j<1000000000):iconv .i64 (ishr .u64 (iconv .u64 (iadd .i64 (i:Int) (j:Int))) 1)=(((i+j)/2:Nat):Int):=by
 rw[qcv (by omega)]
 have e1:iconv .u64 ((i+j:Nat):Int)=((i+j:Nat):Int):=jO (by omega) (by omega)
 have e2:=qib (k:=.u64) (a:=((i+j:Nat):Int)) (m:=1) (by decide)
 rw[show ((1:Nat):Int)=1 from rfl,show (2:Int)^1=2 from rfl] at e2
 rw[e1,e2]
 have e3:((i+j:Nat):Int)/2=(((i+j)/2:Nat):Int):=by omega
 rw[e3]
 exact yA (by omega) (by omega)
theorem ql7 {F:Nat}{l:qFm}{v:Int}(hl:l.Pairwise (·<·))(hm:l.length≤100000):∀ (k i j:Nat),j<k+i→i≤j→j≤l.length→(∀ z∈l.take i,z<v)→(∀ z∈l.drop j,v≤z) →
  ∃ p,yl F l v k ((i:Int),(j:Int))=some (p,decide (v∈l))
 | 0,_,_,_,_,_,_,_=>by omega
 | k+1,i,j,h,hij,hj,h1,h2=>by
  show ∃ p,yk F l v (yl F l v k) (i:Int) (j:Int)=_
  unfold yk
  by_cases hlt:i<j
  ·have hh:(i+j)/2<l.length:=by omega
   rw[if_pos (by simp_all)]
   unfold lett
   rw[qyS (by omega)]
   simp only
   rw[qj,qCn hh]
   simp only[qCm]
   rw[qyX]
   simp only[qCm]
   by_cases hc:l[(i+j)/2]<v
   ·rw[decide_eq_true hc,if_pos rfl,qn (by omega)]
    refine ql7 hl hm k ((i+j)/2+1) j (by omega) (by omega) hj (fun z hz=>?_) h2
    grind [qDz,qC4]
   ·rw[decide_eq_false hc,if_neg (by simp)]
    refine ql7 hl hm k i ((i+j)/2) (by omega) (by omega) (by omega) h1 (fun z hz=>?_)
    obtain ⟨q,hq⟩:=qDz hz
    rw[List.getElem?_drop] at hq
    have hq1:=(qCx.1 hq).1
    rw[qCn hq1] at hq
    simp only[qCy] at hq
    subst hq
    by_cases e:q=0
    ·simp_all
    grind [qC4]
  ·obtain rfl:i=j:=by omega
   rw[if_neg (by simp)]
   unfold yp
   by_cases hi:i<l.length
   ·have hd:l.drop i=l[i]::l.drop (i+1):=qCw hi
    have hmem:v∈l↔l[i]=v:=by
     grind [qDo,qCG]
    rw[if_pos (by grind),qj,qCn hi]
    simp only[qCm]
    by_cases he:l[i]=v
    ·rw[if_pos (by grind),decide_eq_true (hmem.2 he)]
     exact ⟨_,rfl⟩
    ·rw[if_neg (by grind),decide_eq_false (fun h=>he (hmem.1 h))]
     unfold qaJ
     simp only[qCm,bne_self_eq_false,qCF,if_false]
     exact ⟨_,rfl⟩
   ·rw[if_neg (by simp_all)]
    have hn:v∉l:=by
     grind
    rw[decide_eq_false hn]
    exact ⟨_,rfl⟩
theorem qks (hF:200000≤F){v:Int}(hl:l.Pairwise (·<·))(hm:l.length≤100000):∃ p,zx F l v=some (p,decide (v∈l)):=by
 unfold zx
 exact ql7 hl hm F 0 l.length (by omega) (by omega) (qCE _) (by simp) (by simp)
def tb:Bool→Int→List Bool→qFm
 | _,_,[]=>[]
 | c,m,b::bs=>if b != c then m::tb b 1 bs else tb c (m+1) bs
theorem qjV (c:Bool)(m:Int)(bs:List Bool):tb c m (c::bs)=tb c (m+1) bs:=by
 show (if c != c then _ else _)=_
 simp
theorem qjW {c b:Bool}(h:b≠c)(m:Int)(bs:List Bool):tb c m (b::bs)=m::tb b 1 bs:=by
 show (if b != c then _ else _)=_
 simp_all
theorem qsu:∀ (c:Bool) (m:Int) (bs:List Bool),(tb c m bs).length≤bs.length
 | _,_,[]=>qCE _
 | c,m,b::bs=>by
  by_cases h:b=c
  ·subst h
   rw[qjV]
   have:=qsu b (m+1) bs
   grind
  ·rw[qjW h,qCH,qCH]
   have:=qsu b 1 bs
   omega
def hasB (l:qFm)(x:Int):Bool:=decide (x∈l)
def tbs (fr0 l:qFm):qFm:=tb true 0 (fr0.map (hasB l))
def rst (fr0 l:qFm):qFm:=l.filter fun x=>!hasB fr0 x
theorem qBm {o:qFm}{c b:Bool}{m:Int}(ho:o.length≤1000000)(hm:0≤m∧m≤1000000):qaH F o c m b=some (if b != c then (o++[m],b,1) else (o,c,m+1)):=by
 grind [qaH,jc,zl,ko]
theorem qkn {F:Nat}(hF:200000≤F){fr0 l o:qFm}(hf:fr0.Pairwise (·<·))(hfm:fr0.length≤300)(hm:l.length≤300):∀ (k i:Nat) (r:qFm),l.length<k+i→i≤l.length→r.length≤i →
  qcK F fr0 l o k (r,(i:Int))=some (o,r++rst fr0 (l.drop i))
 | 0,_,_,_,_,_=>by omega
 | k+1,i,r,h,hi,hr=>by
  show qe5 F fr0 l o (qcK F fr0 l o k) r (i:Int)=_
  unfold qe5
  by_cases hlt:i<l.length
  ·obtain ⟨p,hp⟩:=qks hF (v:=l[i]) hf (by omega)
   rw[if_pos (by simp_all),qj,qCn hlt,qCw hlt]
   simp only[qCm]
   rw[hp]
   simp only[qCm]
   unfold qcJ rst
   rw[qEl,qn (by omega)]
   by_cases hc:l[i]∈fr0
   ·rw[if_neg (by grind),if_neg (by simp[hasB,hc])]
    exact qkn hF hf hfm hm k (i+1) r (by omega) (by omega) (by omega)
   ·rw[if_pos (by grind),if_pos (by simp[hasB,hc]),ko (by grind)]
    simp only[qCm]
    rw[qkn hF hf hfm hm k (i+1) _ (by omega) (by omega) (by simp_all),qCv]
    rfl
  grind [qfN,rst]
theorem qr1 {F:Nat}(hF:200000≤F){fr0 l:qFm}(hf:fr0.Pairwise (·<·))(hl:l.Pairwise (·<·))(hfm:fr0.length≤300)(hm:l.length≤300):∀ (k i:Nat) (o:qFm) (c:Bool) (m:Int),fr0.length<k+i→i≤fr0.length→o.length≤i→0≤m∧m≤i →
  qe7 F fr0 l k ((i:Int),o,c,m)=some (o++tb c m ((fr0.drop i).map (hasB l)),rst fr0 l)
 | 0,_,_,_,_,_,_,_,_=>by omega
 | k+1,i,o,c,m,h,hi,ho,hmm=>by
  show qe6 F fr0 l (qe7 F fr0 l k) (i:Int) o c m=_
  unfold qe6
  by_cases hlt:i<fr0.length
  ·obtain ⟨p,hp⟩:=qks hF (v:=fr0[i]) hl (by omega)
   rw[if_pos (by simp_all),qj,qCn hlt,qCw hlt,qC5]
   simp only[qCm]
   rw[hp]
   simp only[qCm]
   rw[qBm (by omega) (by omega)]
   simp only[qCm]
   rw[qn (by omega)]
   have hb:hasB l fr0[i]=decide (fr0[i]∈l):=rfl
   rw[← hb]
   by_cases hc:hasB l fr0[i]=c
   ·rw[if_neg (by grind)]
    simp only
    rw[qr1 hF hf hl hfm hm k (i+1) o c (m+1) (by omega) (by omega) (by omega) (by omega),hc,qjV]
   ·rw[if_pos (by grind)]
    simp only
    rw[qr1 hF hf hl hfm hm k (i+1) _ _ 1 (by omega) (by omega) (by simp_all) (by omega),qjW hc,qCv]
    rfl
  ·rw[if_neg (by simp_all),qCB (by omega)]
   unfold qfM
   have:=qkn hF (o:=o) hf hfm hm F 0 [] (by omega) (by omega) (by simp)
   rw[qCY,qCM] at this
   rw[show ((0:Nat):Int)=0 from rfl] at this
   rw[this]
   simp[tb]
theorem qpW {xs:qFm}(h:xs.Pairwise (·≤·)):∀ m,m≤xs.length→(Go.Lib.compactUpTo xs.toArray m).Pairwise (·<·)∧∀ z,z∈Go.Lib.compactUpTo xs.toArray m↔z∈xs.take m
 | 0,_=>by simp[Go.Lib.compactUpTo]
 | m+1,hm=>by
  obtain ⟨a1,a2⟩:=qpW h m (by omega)
  have hlt:m<xs.length:=by omega
  have hg:xs.toArray[m]! = xs[m]:=by simp_all
  rw[Go.Lib.compactUpTo_succ,hg,jp hlt]
  have hle:∀ z∈xs.take m,z≤xs[m]:=fun z hz=>by
   obtain ⟨i,hi,rfl⟩:=qEn.1 hz
   grind [qC4]
  by_cases hk:Go.Lib.keeps xs.toArray m=true
  ·rw[if_pos hk]
   refine ⟨qDE.2 ⟨a1,by simp,fun a ha b hb=>?_⟩,fun z=>by grind⟩
   rw[qCI] at hb
   subst hb
   have ha':=(a2 a).1 ha
   have h1:=hle a ha'
   rcases qEu m with h0 | h0
   ·simp_all
   ·rw[qkh h0 hlt] at hk
    have hne:xs[m]≠xs[m-1]:=by grind
    obtain ⟨i,hi,rfl⟩:=qEn.1 ha'
    rw[qCA] at hi
    rw[List.getElem_take] at h1 ⊢
    have h2:xs[i]≤xs[m-1]:=by
     by_cases hi2:i=m-1
     ·simp_all
     ·exact qC4.1 h i (m-1) (by omega) (by omega) (by omega)
    grind [qC4]
  ·rw[if_neg hk,qC0]
   refine ⟨a1,fun z=>?_⟩
   rw[a2,qCr]
   rcases qEu m with h0 | h0
   ·grind [Go.Lib.keeps]
   ·rw[qkh h0 hlt] at hk
    have he:xs[m]=xs[m-1]:=by grind
    constructor
    ·simp_all
    ·rintro (h1 | h1)
     ·omega
     ·rw[qCI] at h1
      rw[h1,he]
      have:m-1<(xs.take m).length:=by grind
      have e:(xs.take m)[m-1]=xs[m-1]:=List.getElem_take
      grind
theorem qrv (h:xs.Pairwise (·≤·)):(Go.Lib.compact xs).Pairwise (·<·)∧∀ z,z∈Go.Lib.compact xs↔z∈xs:=by
 obtain ⟨a1,a2⟩:=qpW h xs.length (qCE _)
 refine ⟨a1,fun z=>?_⟩
 have:=a2 z
 rwa [qDI] at this
def exA (l:List (Int×Int)):List (Int×Int):=l.flatMap fun p=>if p.1≠p.2 then [(p.1,p.2),(p.2,p.1)] else []
theorem qs3 {l:List (Int×Int)}{p:Int×Int}:p∈exA l↔p.1≠p.2∧(p∈l∨(p.2,p.1)∈l):=by
 unfold exA
 grind
theorem qs2 (l:List (Int×Int)):(exA l).length≤2*l.length:=by
 induction l with
 | nil=>simp[exA]
 | cons p l ih =>
  grind [exA]
theorem qrA {n:Nat}{l:List (Int×Int)}(h:InR n l):InR n (exA l):=fun p hp=>by
 obtain ⟨_,h1 | h1⟩:=qs3.1 hp
 ·exact h p h1
 ·have:=h _ h1;omega
def E (g:List (qFm)):List (Int×Int):=exA (af 0 g)
theorem qnj {F n:Nat}{yy:List (qFm)→(Int×Int)→Option (List (qFm) ⊕ Empty)}(hy:∀ s p,yy s p=qbV F s p.1 p.2):∀ (A acc:List (Int×Int)),InR n A→acc.length+A.length≤1000000 →
  vF yy A (tab n (exA acc))=some (.inl (tab n (exA (acc++A))))
 | [],acc,_,_=>by rw[qC0];rfl
 | p::A,acc,h,hm=>by
  rw[qCH] at hm
  obtain ⟨h1,h2,h3,h4⟩:=h p (by simp)
  have hrec:=qnj hy A (acc++[p]) (fun q hq=>h q (by grind)) (by grind)
  rw[qCv] at hrec
  show (yy _ p).bind _=_
  rw[hy]
  unfold qbV
  obtain ⟨a,ha⟩:=qCp h1
  obtain ⟨b,hb⟩:=qCp h3
  have e:p=((a:Int),(b:Int)):=Prod.ext ha hb
  have hex:=qs2 acc
  have hl1:=qgZ (exA acc) (a:Int)
  have hl2:=qgZ (exA acc) (b:Int)
  subst e
  simp only at *
  by_cases hab:a=b
  ·grind [exA]
  ·have habi:¬ (a:Int)=(b:Int):=by omega
   have e1:exA (acc++[((a:Int),(b:Int))])=exA acc++[((a:Int),(b:Int))]++[((b:Int),(a:Int))]:=by
    grind [exA]
   have e2:rowOf (exA acc++[((a:Int),(b:Int))]) (b:Int)=rowOf (exA acc) (b:Int):=by
    grind [rowOf]
   rw[e1,qjU,qjU,e2] at hrec
   rw[if_pos (by simp_all),qj,qjT (by omega)]
   simp only[qCm]
   rw[qj,qjT (by omega)]
   simp only[qCm,chk,lett]
   rw[if_pos (by grind),ko (by grind)]
   simp only[qCm]
   rw[ko (by grind)]
   simp_all
def tb2 (n:Nat)(f h:Nat→qFm)(i:Nat):List (qFm):=(qCL n).map fun a=>if a<i then f a else h a
theorem qzN (n:Nat)(f h:Nat→qFm)(i:Nat):(tb2 n f h i).length=n:=by simp[tb2]
theorem qzM {n i:Nat}{f h:Nat→qFm}(hi:i<n):(tb2 n f h i)[i]?=some (h i):=by simp[tb2,hi]
theorem qzO {n i:Nat}{f h:Nat→qFm}:(tb2 n f h i).set i (f i)=tb2 n f h (i+1):=by
 apply qDe (by simp[tb2])
 grind [tb2]
theorem qzL {n:Nat}{f h:Nat→qFm}:tb2 n f h n=(qCL n).map f:=by
 apply qDe (by simp[tb2])
 grind [tb2]
theorem qwB {F n:Nat}{T:List (qFm)}{h:Nat→qFm}(hT:T.length=n)(hh:∀ i,(h i).length≤1000000)(hn:n≤1000000):∀ (k i:Nat),n<k+i→i≤n →
  qfA F T k ((i:Int),tb2 n (fun a=>Go.Lib.compact (srt (h a))) h i)=some ((qCL n).map fun a=>Go.Lib.compact (srt (h a)))
 | 0,_,_,_=>by omega
 | k+1,i,hk,hi=>by
  show qfz F T (qfA F T k) (i:Int) (tb2 n (fun a=>Go.Lib.compact (srt (h a))) h i)=_
  unfold qfz
  by_cases hlt:i<n
  ·have hrec:=qwB (F:=F) (T:=T) (h:=h) hT hh hn k (i+1) (by omega) (by omega)
   have hhi:=hh i
   have hsl:(srt (h i)).length=(h i).length:=qii _
   have hcl:=qhP (srt (h i))
   rw[if_pos (by simp_all),qj,qzM hlt]
   simp only[qCm]
   unfold zg
   rw[if_pos (by omega)]
   simp only[qCm,chk,lett,qCs]
   grind [qj,qzN,zE,qn,List.set_set,qzO]
  ·rw[if_neg (by simp_all),show i=n from by omega,qzL]
   rfl
def nr (g:List (qFm)):List (qFm):=(qCL g.length).map fun i=>cols (E g) i g.length
theorem qfX {g:List (qFm)}(h:Gr g):IsTab g.length (E g) (nr g):=qru (qrA (qhQ h))
theorem qtn {g:List (qFm)}(hF:2000≤F)(hg:Gr g):qeI F g=some (nr g):=by
 have h1:=hg.1
 have h2:=qlD hg
 have hex:=qs2 (af 0 g)
 unfold qeI jE
 rw[qrV (by omega)]
 simp only[qCm]
 rw[qoa (by omega) (by omega) (fun l hl=>by grind [qca])]
 have hf:=qnj (F:=F) (n:=g.length) (yy:=fun x x_1=>qbV F x x_1.1 x_1.2) (fun _ _=>rfl) (af 0 g) [] (qhQ hg) (by grind)
 rw[qCM] at hf
 refine (congrArg (fun z=>Option.bind z _) hf).trans ?_
 simp only[qCm,Sum.elim_inl]
 have e0:tab g.length (exA (af 0 g))=tb2 g.length (fun a=>Go.Lib.compact (srt (rowOf (exA (af 0 g)) (a:Nat)))) (fun (a:Nat)=>rowOf (exA (af 0 g)) a) 0:=by
  rfl
 have hl:=qwB (F:=F) (n:=g.length) (T:=tab g.length (exA (af 0 g))) (h:=fun (a:Nat)=>rowOf (exA (af 0 g)) a) (qiq _ _) (fun i=>by grind [rowOf]) (by omega) F 0 (by omega) (by omega)
 rw[← e0] at hl
 refine Eq.trans hl ?_
 congr 1
 have ht:IsTab g.length (E g) ((qCL g.length).map fun (a:Nat)=>Go.Lib.compact (srt (rowOf (exA (af 0 g)) a))):=by
  refine ⟨by simp,fun i r hr=>?_⟩
  have hi:i<g.length:=by grind
  simp only[qDv,qEL hi,qDk,qCy] at hr
  subst hr
  obtain ⟨c1,c2⟩:=qrv (qoX (rowOf (exA (af 0 g)) (i:Int)))
  exact ⟨c1,fun x=>by rw[c2,(qjM _).mem_iff,qni];rfl⟩
 exact qlH ht (qfX hg) fun _=>Iff.rfl
theorem qgK (g:List (qFm)):(nr g).length=g.length:=by simp[nr]
def Nb (g:List (qFm))(i k:Nat):Bool:=decide (((i:Int),(k:Int))∈E g)
theorem qAC {g:List (qFm)}{i:Nat}:Nb g i k=Nb g k i:=by
 unfold Nb
 refine decide_eq_decide.2 ?_
 grind [E,qs3]
theorem qz2 {g:List (qFm)}(hg:Gr g){i:Nat}(h:Nb g i k=true):i<g.length∧k<g.length:=by
 have:=qrA (qhQ hg) _ (of_decide_eq_true h)
 omega
theorem qgJ {g:List (qFm)}{i:Nat}(hi:i<g.length):(nr g)[i]?=some (cols (E g) i g.length):=by simp[nr,hi]
def nbs (g:List (qFm))(i:Nat):List Nat:=(qCL g.length).filter fun k=>Nb g i k
theorem qpT (g:List (qFm))(i:Nat):cols (E g) i g.length=(nbs g i).map fun (k:Nat)=>(k:Int):=rfl
theorem qoH {g:List (qFm)}(hg:Gr g){i:Nat}:k∈nbs g i↔Nb g i k=true:=by
 unfold nbs
 rw[qDy,qDA]
 exact ⟨fun h=>h.2,fun h=>⟨(qz2 hg h).2,h⟩⟩
theorem qA9 (g:List (qFm))(i:Nat):(nbs g i).Pairwise (·<·):=List.pairwise_lt_range.filter _
theorem qtm (g:List (qFm))(i:Nat):(nbs g i).length≤g.length:=by
 grind [nbs]
def P (g:List (qFm))(x:Nat):Nat:=(gD (spartL g) x).toNat
theorem qBN {g:List (qFm)}(hg:Gr g)(hx:x<g.length):gD (spartL g) x=(P g x:Int):=by
 have:=(qg0 hg).le x hx
 unfold P;omega
theorem qBO {g:List (qFm)}(hg:Gr g)(hx:x<g.length)(hy:y<g.length):P g x=P g y↔Sc g x y:=by
 rw[← (qg0 hg).iff hx hy,qBN hg hx,qBN hg hy];omega
theorem qBZ {L:List Nat}(h:L.Pairwise (·<·)):(iz L).Pairwise (·<·):=by
 grind [iz]
def ldB (g:List (qFm))(k i:Nat):Bool:=decide (((k:Int),(i:Int))∈af 0 g)
theorem qid {g:List (qFm)}{i:Nat}:ldB g k i=true↔Ld g k i:=by unfold ldB Ld;simp
def free (g:List (qFm))(out:List Nat)(i:Nat):Bool:=decide (i∉out) && (qCL g.length).all fun k=>decide (k∈out) || !ldB g k i
theorem qjx {g:List (qFm)}{out:List Nat}{i:Nat}:free g out i=true↔i∉out∧∀ k,k<g.length→Ld g k i→k∈out:=by
 unfold free
 simp only[Bool.and_eq_true,decide_eq_true_eq,List.all_eq_true,qDA,qDN,Bool.not_eq_true']
 refine and_congr Iff.rfl ⟨fun h k hk hl=>?_,fun h k hk=>?_⟩
 ·grind [qid]
 ·by_cases hl:Ld g k i
  ·simp_all
  ·refine .inr ?_
   rw[← qE6,qid];omega
def nxO (g:List (qFm))(out:List Nat):Option Nat:=(qCL g.length).find? (free g out)
def ordM (g:List (qFm)):Nat→List Nat→Option (List Nat)
 | 0,out=>some out
 | m+1,out=>match nxO g out with
  | none=>none
  | some i=>ordM g m (out++[i])
def ordL (g:List (qFm)):Option (List Nat):=ordM g g.length []
structure OI (g:List (qFm)) (out:List Nat):Prop where
 nd:out.Nodup
 lt:∀ i,i∈out→i<g.length
 pre:∀ i,i∈out→∀ k,Ld g k i→k∈out
theorem OI.len {g:List (qFm)}{out:List Nat}(h:OI g out):out.length≤g.length:=by
 have:=qfW (M:=qCL g.length) h.nd fun x hx=>qDA.2 (h.lt x hx)
 simp_all
theorem qql {g:List (qFm)}{out:List Nat}{i:Nat}(h:nxO g out=some i):i<g.length∧free g out i=true∧∀ j,j<i→free g out j=false:=by
 grind [nxO,List.find?_range_eq_some]
theorem qwH {g:List (qFm)}{out:List Nat}(h:nxO g out=none){i:Nat}(hi:i<g.length):free g out i=false:=by
 have:=List.find?_eq_none.1 h i (qDA.2 hi)
 simp_all
end Go.Proofs.YthibchijlpflmaaGreatDoor
