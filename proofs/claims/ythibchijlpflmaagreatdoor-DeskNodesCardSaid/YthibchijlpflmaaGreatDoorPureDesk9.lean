/- Plain facts of what the functions of this seat compute. -/
import Derived.Test.YthibchijlpflmaaGreatDoorModels
import Derived.KernelRfl
import Derived.Lib.SlicesCompact
import Derived.Lib.SplitLaws
open BitVec renaming ofNat→qBI, ofInt→qBS, allOnes→qCC, toNat_ofNat→qCI
open Bool renaming false_eq_true→qBy, and_eq_true→qB6, not_true→qCe, or_eq_true→qCK
open Classical renaming byContradiction→qDc
open Int renaming eq_ofNat_of_zero_le→qBm, toNat_natCast→qBo, natCast_nonneg→qDA
open List renaming replicate→qBj, getElem?_eq_getElem→qBk, mem_of_getElem?→qBl, mem_append→qBn, mem_cons→qBp, drop_eq_getElem_cons→qBq, length_append→qBr, append_assoc→qBt, drop_eq_nil_of_le→qBu, mem_cons_self→qBv, range→qBx, mem_cons_of_mem→qBz, getElem?_eq_some_iff→qBC, mem_singleton→qBD, getElem_mem→qBE, nil_append→qBF, length_map→qBJ, mem_map→qBK, length_replicate→qBP, length_cons→qBQ, pairwise_iff_getElem→qBT, ext_getElem?→qBU, append_nil→qBV, ext_getElem→qBY, pairwise_cons→qB0, drop_zero→qB1, map_cons→qB2, length_take→qB7, cons_append→qCb, length_drop→qCc, mem_filter→qCf, mem_range→qCh, nodup_cons→qCi, getElem?_of_mem→qCo, getElem?_map→qCp, take_of_length_le→qCr, take_length→qCB, map_map→qCG, getElem_range→qCH, take_left'→qCJ, pairwise_append→qCM, map_congr_left→qCR, getElem?_cons_succ→qCS, pairwise_map→qCX, filter_cons→qC3, getElem_map→qC4, nodup_range→qDm, getElem?_eq_none→qDp, mem_iff_getElem→qDq, getElem?_range→qDt, getElem_set→qDN, getD→qDP
open List.Pairwise renaming nil→qDC
open List.Perm renaming eq_of_pairwise→qCP
open Nat renaming le_refl→qBw, pow_le_pow_right→qBW, le_trans→qB5, mod_eq_of_lt→qB8, div_le_self→qCx, pow_pos→qCN, add_comm→qCZ, min_eq_left→qC8, lt_of_lt_of_le→qDd, add_assoc→qDj, pow_succ'→qDk, div_mul_le_self→qDu, eq_zero_or_pos→qDz, div_eq_of_lt→qDL, pow_succ→qDM, pow_add→qDW
open Option renaming bind_some→qBi, map_some→qCj
open Option.some renaming injEq→qBs
namespace Go.Proofs.YthibchijlpflmaaGreatDoor
open Go SX
variable {F:Nat} {rec68:(List (Int×Int)×qD0×Int)→Option (List (Int×Int)×qD0)} {l:qD0} {lea0:Int} {o:List (Int×Int)} {rest:qD0} {i:Int}
variable {F:Nat} {g:List (qD0)} {B l K:Int}
def byt (l:qD0)(k:Nat):Int :=
 l.getD (8*k) 0*128+l.getD (8*k+1) 0*64+l.getD (8*k+2) 0*32+l.getD (8*k+3) 0*16+l.getD (8*k+4) 0*8+l.getD (8*k+5) 0*4+l.getD (8*k+6) 0*2+l.getD (8*k+7) 0
def pk (l:qD0):qD0:=(qBx ((l.length+7)/8)).map (byt l)
def Bit (l:qD0):Prop:=∀ x∈l,x=0∨x=1
theorem Bit.getD {l:qD0}(h:Bit l)(i:Nat):l.getD i 0=0∨l.getD i 0=1:=by
 by_cases hi:i<l.length
 ·have:=h l[i] (qBE hi)
  simp_all
 simp_all
theorem qtz (l:qD0)(x:Int)(i:Nat):(l++[x]).getD i 0=if i=l.length then x else l.getD i 0:=by
 grind
theorem qjC {l:qD0}(h:Bit l)(k:Nat):0≤byt l k∧byt l k<256:=by
 have h0:=h.getD (8*k);have h1:=h.getD (8*k+1);have h2:=h.getD (8*k+2);have h3:=h.getD (8*k+3)
 have h4:=h.getD (8*k+4);have h5:=h.getD (8*k+5);have h6:=h.getD (8*k+6);have h7:=h.getD (8*k+7)
 unfold byt
 omega
variable {q:Int}{r:Int×Int}{R:List (Int×Int)}{T:List (qD0)}{op0:List Nat}{a clk clk0 k lim s t w x y:Nat}{S:Nat→Bool}{pt0:Nat→Int}{cm cm0:Nat→Nat}{b d p xs:qD0}
theorem qkZ {l:qD0}{x:Int}(h:k≠l.length/8):byt (l++[x]) k=byt l k:=by
 grind [byt]
theorem qo3 {l:qD0}{x:Int}:byt (l++[x]) (l.length/8)=byt l (l.length/8)+x*2^(7-l.length%8):=by
 obtain ⟨k,hk⟩:∃ k,k=l.length/8:=⟨_,rfl⟩
 obtain ⟨r,hr⟩:∃ r,r=l.length%8:=⟨_,rfl⟩
 have hl:l.length=8*k+r:=by omega
 have hr8:r<8:=by omega
 rw[← hk,← hr]
 unfold byt
 simp only[qtz,hl]
 grind
theorem irem8 (n:Nat):irem (n:Int) 8=((n%8:Nat):Int):=by
 rfl
theorem iquo8 {n:Nat}(h:n≤9223372036854775807):iquo .i64 (n:Int) 8=((n/8:Nat):Int):=by
 grind [iquo,yb]
theorem qrU {l:qD0}:byt l (l.length/8)%2^(8-l.length%8)=0:=by
 obtain ⟨k,hk⟩:∃ k,k=l.length/8:=⟨_,rfl⟩
 obtain ⟨r,hr⟩:∃ r,r=l.length%8:=⟨_,rfl⟩
 have hl:l.length=8*k+r:=by omega
 have hr8:r<8:=by omega
 rw[← hk,← hr]
 unfold byt
 grind
theorem qxn {l:qD0}(h:l.length%8=0):byt l (l.length/8)=0:=by
 grind [byt]
theorem qpp (k:IntKind)(a b:Int):ior k a b=ior k b a:=by grind [ior]
def room (l:qD0):qD0:=(qBx (l.length/8+1)).map (byt l)
theorem qsO {l:qD0}(hl:Bit l){x:Int}(hx:x=0∨x=1)(hn:l.length≤1000000):yT F (l.length:Int) x (room l)=some (((l.length+1:Nat):Int),pk (l++[x])):=by
 unfold yT
 rw[iquo8 (by omega),irem8]
 have hg:(room l)[l.length/8]?=some (byt l (l.length/8)):=by simp[room]
 rw[qo,hg]
 simp only[qBi]
 have hc:decide ((0:Int)≤((l.length%8:Nat):Int))=true:=decide_eq_true (by omega)
 rw[hc]
 simp only[chk,if_true,lett,qBo]
 have hb:=qjC hl (l.length/8)
 have hr8:l.length%8<8:=Nat.mod_lt _ (by decide)
 have e1:ishl .u64 x 7=x*128:=by
  have:=qlg (a:=x) (m:=7) (by decide)
  grind
 have e2:iconv .u8 (x*128)=x*128:=qta (by omega) (by omega)
 have e3:ishr .u8 (x*128) ((l.length%8:Nat):Int)=x*2^(7-l.length%8):=by
  rw[qhB (by grind [IntKind.bits])]
  have key:∀ r:Fin 8,((0:Int)*128/2^r.val=0*2^(7-r.val))∧((1:Int)*128/2^r.val=1*2^(7-r.val)):=by decide
  have:=key ⟨l.length%8,hr8⟩
  grind
 have key2:∀ r:Fin 8,(1:Int)≤2^(7-r.val)∧(2:Int)^(8-r.val)=2*2^(7-r.val)∧(2:Int)^(7-r.val)≤128∧(256:Int)%2^(8-r.val)=0∧(2:Int)^(8-r.val)≤256:=by decide
 have hk2:=key2 ⟨l.length%8,hr8⟩
 simp only at hk2
 have hat:=qo3 (l:=l) (x:=x)
 have hb2:Bit (l++[x]):=by
  intro y hy
  rcases qBn.1 hy with h | h
  ·exact hl y h
  simp_all
 have hbb:=qjC hb2 (l.length/8)
 have e4:ior .u8 (byt l (l.length/8)) (x*2^(7-l.length%8))=byt (l++[x]) (l.length/8):=by
  rw[qpp,qsg (m:=8-l.length%8) ?_ ?_ hb.1 qrU rfl ?_]
  ·omega
  ·grind
  ·grind
  grind [IntKind.bits]
 rw[e1,e2,e3,e4,zb (by omega) (by omega)]
 congr 2
 unfold room pk
 have hlen:((l++[x]).length+7)/8=l.length/8+1:=by grind
 rw[hlen]
 apply qBU
 grind [qkZ]
theorem quz {l:qD0}(hl:Bit l){x:Int}(hx:x=0∨x=1)(hn:l.length≤1000000):jg F (l.length:Int) (pk l) x=some (((l.length+1:Nat):Int),pk (l++[x])):=by
 unfold jg
 rw[irem8]
 by_cases h:l.length%8=0
 ·have h1:((((l.length%8:Nat):Int):Int) == 0)=true:=by grind
  simp only[h1,if_true]
  rw[kG (by simp[pk];omega)]
  simp only[qBi]
  have:pk l++[0]=room l:=by
   grind [pk,room,List.range_succ,qxn]
  grind [qsO]
 ·have h1:((((l.length%8:Nat):Int):Int) == 0)=false:=by grind
  simp only[h1,qBy,if_false]
  have:pk l=room l:=by
   grind [pk,room]
  grind [qsO]
def bitAt (b:qD0)(i:Nat):Int:=b.getD (i/8) 0/2^(7-i%8)%2
def bl (b:qD0)(n:Nat):qD0:=(qBx n).map (bitAt b)
theorem qjB (b:qD0)(i:Nat):bitAt b i=0∨bitAt b i=1:=by unfold bitAt;omega
theorem qqx (b:qD0)(n:Nat):Bit (bl b n):=by
 intro x hx
 obtain ⟨i,_,rfl⟩:=qBK.1 hx
 exact qjB b i
theorem qgG (b:qD0)(n:Nat):(bl b n).length=n:=by simp[bl]
def U8s (l:qD0):Prop:=∀ n∈l,0≤n∧n<256
theorem quv {n:Int}(hb:U8s b){i:Nat}(hi:i/8<b.length)(hm:i≤1000000):qaY F n b (i:Int)=some (bitAt b i):=by
 unfold qaY
 rw[iquo8 (by omega),irem8,qo]
 have hg:b[i/8]?=some b[i/8]:=by simp
 rw[hg]
 simp only[qBi]
 have e1:isub .i64 7 ((i%8:Nat):Int)=((7-i%8:Nat):Int):=by grind [zN]
 rw[e1]
 have hc:decide ((0:Int)≤((7-i%8:Nat):Int))=true:=decide_eq_true (by omega)
 rw[hc]
 simp only[chk,if_true,lett]
 have hx:=hb b[i/8] (qBE hi)
 rw[qhB (by grind [IntKind.bits])]
 have hp:(1:Int)≤2^(7-i%8):=by
  have key:∀ r:Fin 8,(1:Int)≤2^(7-r.val):=by decide
  exact key ⟨i%8,Nat.mod_lt _ (by decide)⟩
 have h1:0≤b[i/8]/2^(7-i%8):=Int.ediv_nonneg hx.1 (by omega)
 have h2:b[i/8]/2^(7-i%8)≤b[i/8]:=Int.ediv_le_self _ hx.1
 have e2:iconv .u64 (b[i/8]/2^(7-i%8))=b[i/8]/2^(7-i%8):=jB h1 (by omega)
 rw[e2]
 have e3:=qhA (k:=.u64) (a:=b[i/8]/2^(7-i%8)) (m:=1) h1 (by grind [IntKind.bits]) (by decide) rfl
 rw[show ((2^1-1:Nat):Int)=1 from rfl,show (2:Int)^1=2 from rfl] at e3
 grind [bitAt]
theorem qpC {F:Nat}{n:Int}{b:qD0}(hb:U8s b){yy:(Int×qD0)→Int→Option ((Int×qD0) ⊕ Empty)}(hy:∀ (l:qD0) x,Bit l→(x=0∨x=1)→l.length≤100000→yy ((l.length:Int),pk l) x=some (.inl (((l.length+1:Nat):Int),pk (l++[x])))){to:Nat}(ht:to≤8*b.length)(hm:to≤10000) :
  ∀ (k i:Nat) (l:qD0),to<k+i→i≤to→Bit l→l.length+(to-i)≤100000 →
   yL F yy (to:Int) n b k ((i:Int),((l.length:Int),pk l))=some (.inl (((l.length+(to-i):Nat):Int),pk (l++(bl b to).drop i)))
 | 0,i,l,h,hi,_,_=>by omega
 | k+1,i,l,h,hi,hl,hc=>by
  have hstep:yL F yy (to:Int) n b (k+1) ((i:Int),((l.length:Int),pk l))=qam F yy (to:Int) n b (yL F yy (to:Int) n b k) (i:Int) ((l.length:Int),pk l):=rfl
  rw[hstep]
  unfold qam
  by_cases hlt:i<to
  ·have h1:(i:Int)<(to:Int):=by omega
   simp only[h1,decide_true,if_true]
   rw[quv hb (by omega) (by omega)]
   simp only[qBi]
   have hx:=qjB b i
   rw[hy l _ hl hx (by omega)]
   simp only[qBi,Sum.elim_inl]
   rw[zb (by omega) (by omega),show (i:Int)+1=((i+1:Nat):Int) from by omega]
   have hl2:Bit (l++[bitAt b i]):=by
    intro y hy2
    rcases qBn.1 hy2 with h | h
    ·exact hl y h
    simp_all
   have:=qpC (F:=F) (n:=n) hb hy ht hm k (i+1) (l++[bitAt b i]) (by omega) (by omega) hl2 (by grind)
   grind [bl,qBq]
  ·have h1:¬ (i:Int)<(to:Int):=by omega
   simp only[h1,decide_false,qBy,if_false]
   grind [qgG]
structure Ok (n:Nat) (b:qD0):Prop where
 max:n≤8192
 len:b.length=(n+7)/8
 low:n%8≠0→b.getD (n/8) 0%2^(8-n%8)=0
theorem qxk {n i:Nat}:(bl b n).getD i 0=if i<n then bitAt b i else 0:=by
 grind [bl]
theorem bits8 {x:Int}(h0:0≤x)(h1:x<256):x/128%2*128+x/64%2*64+x/32%2*32+x/16%2*16+x/8%2*8+x/4%2*4+x/2%2*2+x/1%2=x:=by omega
theorem qrQ (b:qD0)(k:Nat):bitAt b (8*k)=b.getD k 0/128%2∧bitAt b (8*k+1)=b.getD k 0/64%2∧bitAt b (8*k+2)=b.getD k 0/32%2∧bitAt b (8*k+3)=b.getD k 0/16%2 ∧
  bitAt b (8*k+4)=b.getD k 0/8%2∧bitAt b (8*k+5)=b.getD k 0/4%2∧bitAt b (8*k+6)=b.getD k 0/2%2∧bitAt b (8*k+7)=b.getD k 0/1%2:=by
 unfold bitAt
 rw[show 8*k/8=k from by omega,show (8*k+1)/8=k from by omega,show (8*k+2)/8=k from by omega,show (8*k+3)/8=k from by omega,show (8*k+4)/8=k from by omega,show (8*k+5)/8=k from by omega,show (8*k+6)/8=k from by omega,show (8*k+7)/8=k from by omega,
  show 8*k%8=0 from by omega,show (8*k+1)%8=1 from by omega,show (8*k+2)%8=2 from by omega,show (8*k+3)%8=3 from by omega,show (8*k+4)%8=4 from by omega,show (8*k+5)%8=5 from by omega,show (8*k+6)%8=6 from by omega,show (8*k+7)%8=7 from by omega]
 omega
theorem qzF {n:Nat}(hb:U8s b)(h:Ok n b)(hk:k<(n+7)/8):byt (bl b n) k=b.getD k 0:=by
 have hx:0≤b.getD k 0∧b.getD k 0<256:=by
  have hlt:k<b.length:=by rw[h.len];exact hk
  have:=hb b[k] (qBE hlt)
  simpa[qDP,hlt] using this
 obtain ⟨c0,c1,c2,c3,c4,c5,c6,c7⟩:=qrQ b k
 unfold byt
 simp only[qxk]
 rw[c0,c1,c2,c3,c4,c5,c6,c7]
 by_cases hf:8*k+8≤n
 ·rw[if_pos (by omega),if_pos (by omega),if_pos (by omega),if_pos (by omega),if_pos (by omega),if_pos (by omega),if_pos (by omega),if_pos (by omega)]
  exact bits8 hx.1 hx.2
 ·have hkn:n/8=k:=by omega
  obtain ⟨r,hr⟩:∃ r,r=n%8:=⟨_,rfl⟩
  have hn:n=8*k+r:=by omega
  have hlow:=h.low (by omega)
  rw[hkn,← hr] at hlow
  generalize b.getD k 0=x at hx hlow
  rcases (by omega:r=1∨r=2∨r=3∨r=4∨r=5∨r=6∨r=7) with rfl | rfl | rfl | rfl | rfl | rfl | rfl
  ·rw[if_pos (by omega),if_neg (by omega),if_neg (by omega),if_neg (by omega),if_neg (by omega),if_neg (by omega),if_neg (by omega),if_neg (by omega)]
   rw[show (2:Int)^(8-1)=128 from by decide] at hlow
   omega
  ·rw[if_pos (by omega),if_pos (by omega),if_neg (by omega),if_neg (by omega),if_neg (by omega),if_neg (by omega),if_neg (by omega),if_neg (by omega)]
   rw[show (2:Int)^(8-2)=64 from by decide] at hlow
   omega
  ·rw[if_pos (by omega),if_pos (by omega),if_pos (by omega),if_neg (by omega),if_neg (by omega),if_neg (by omega),if_neg (by omega),if_neg (by omega)]
   rw[show (2:Int)^(8-3)=32 from by decide] at hlow
   omega
  ·rw[if_pos (by omega),if_pos (by omega),if_pos (by omega),if_pos (by omega),if_neg (by omega),if_neg (by omega),if_neg (by omega),if_neg (by omega)]
   rw[show (2:Int)^(8-4)=16 from by decide] at hlow
   omega
  ·rw[if_pos (by omega),if_pos (by omega),if_pos (by omega),if_pos (by omega),if_pos (by omega),if_neg (by omega),if_neg (by omega),if_neg (by omega)]
   rw[show (2:Int)^(8-5)=8 from by decide] at hlow
   omega
  ·rw[if_pos (by omega),if_pos (by omega),if_pos (by omega),if_pos (by omega),if_pos (by omega),if_pos (by omega),if_neg (by omega),if_neg (by omega)]
   rw[show (2:Int)^(8-6)=4 from by decide] at hlow
   omega
  ·rw[if_pos (by omega),if_pos (by omega),if_pos (by omega),if_pos (by omega),if_pos (by omega),if_pos (by omega),if_pos (by omega),if_neg (by omega)]
   rw[show (2:Int)^(8-7)=2 from by decide] at hlow
   omega
theorem qvS {n:Nat}(hb:U8s b)(h:Ok n b):pk (bl b n)=b:=by
 unfold pk
 rw[qgG]
 apply qBU
 intro k
 by_cases hk:k<(n+7)/8
 ·rw[qCp,qDt hk]
  simp only[qCj]
  rw[qzF hb h hk]
  have hlt:k<b.length:=by rw[h.len];omega
  simp_all
 ·rw[qDp (by grind),qDp (by rw[h.len];omega)]
def chkOf (n:Int)(b:qD0):Int :=
 if n<0∨8192<n then 3 else if (b.length:Int)≠(n+7)/8 then 1 else if n%8≠0∧b.getD (n.toNat/8) 0%2^(8-n.toNat%8)≠0 then 1 else 0
theorem quE {n:Int}(h:chkOf n b=0):∃ m:Nat,n=m∧Ok m b:=by
 unfold chkOf at h
 split at h
 ·omega
 ·rename_i h1
  split at h
  ·omega
  ·rename_i h2
   split at h
   ·omega
   ·rename_i h3
    obtain ⟨m,rfl⟩:=qBm (show 0≤n by omega)
    refine ⟨m,rfl,by omega,by omega,fun hm=>?_⟩
    grind
theorem qk0 {n:Int}(hb:U8s b)(h1:-9223372036854775808≤n)(h2:n<9223372036854775808)(hm:b.length≤9223372036854775807):qbM F n b=some (chkOf n b):=by
 unfold qbM chkOf
 by_cases c1:n<0∨8192<n
 ·have:(decide (n<0) || decide (8192<n))=true:=by simpa using c1
  rw[if_pos this,if_pos c1]
 ·have:(decide (n<0) || decide (8192<n))=false:=by simpa using c1
  rw[this,if_neg c1]
  simp only[qBy,if_false]
  obtain ⟨m,rfl⟩:=qBm (show 0≤n by omega)
  have e1:iquo .i64 (iadd .i64 (m:Int) 7) 8=((m:Int)+7)/8:=by
   rw[zb (by omega) (by omega),show (m:Int)+7=((m+7:Nat):Int) from by omega,iquo8 (by omega)]
   omega
  rw[e1,irem8]
  by_cases c2:(b.length:Int)≠((m:Int)+7)/8
  ·have:((b.length:Int) != ((m:Int)+7)/8)=true:=by simpa using c2
   rw[if_pos this,if_pos c2]
  ·have:((b.length:Int) != ((m:Int)+7)/8)=false:=by simpa using c2
   rw[this,if_neg c2]
   simp only[qBy,if_false]
   by_cases c3:m%8=0
   ·have:((((m%8:Nat):Int)) != 0)=false:=by simp[c3]
    have hn:¬ ((m:Int)%8≠0∧b.getD ((m:Int).toNat/8) 0%2^(8-(m:Int).toNat%8)≠0):=fun h=>h.1 (by omega)
    rw[this,if_neg hn]
    simp[qaK]
   ·have:((((m%8:Nat):Int)) != 0)=true:=by simp;omega
    rw[this]
    simp only[if_true]
    have hlen:b.length=m/8+1:=by omega
    have e2:isub .i64 (b.length:Int) 1=((m/8:Nat):Int):=by rw[zN (by omega) (by omega)];omega
    have hg:b[m/8]?=some b[m/8]:=by simp[hlen]
    rw[e2,qo,hg]
    simp only[qBi]
    have hc:decide ((0:Int)≤((m%8:Nat):Int))=true:=decide_eq_true (by omega)
    rw[hc]
    simp only[chk,if_true]
    have hx:=hb b[m/8] (qBE (by omega))
    have hgd:b.getD (m/8) 0=b[m/8]:=by simp[qDP,hg]
    rw[qBo,hgd]
    generalize b[m/8]=x at hx
    have e3:(ishl .u8 x ((m%8:Nat):Int) != 0)=decide (x%2^(8-m%8)≠0):=by
     have key:ishl .u8 x ((m%8:Nat):Int)=(x*2^(m%8))%256:=by
      unfold ishl
      have h:min (((m%8:Nat):Int).toNat) (IntKind.bits .u8)=m%8:=by simp[IntKind.bits];omega
      rw[h,qqg]
     rw[key]
     rcases (by omega:m%8=1∨m%8=2∨m%8=3∨m%8=4∨m%8=5∨m%8=6∨m%8=7) with h | h | h | h | h | h | h <;> rw[h]
     ·rw[show (2:Int)^1=2 from rfl,show (2:Int)^(8-1)=128 from by decide];by_cases hz:x%128=0 <;> simp[hz] <;> omega
     ·rw[show (2:Int)^2=4 from rfl,show (2:Int)^(8-2)=64 from by decide];by_cases hz:x%64=0 <;> simp[hz] <;> omega
     ·rw[show (2:Int)^3=8 from rfl,show (2:Int)^(8-3)=32 from by decide];by_cases hz:x%32=0 <;> simp[hz] <;> omega
     ·rw[show (2:Int)^4=16 from by decide];try rw[show (2:Int)^(8-4)=16 from by decide]
      by_cases hz:x%16=0 <;> simp[hz] <;> omega
     ·rw[show (2:Int)^5=32 from by decide,show (2:Int)^(8-5)=8 from by decide];by_cases hz:x%8=0 <;> simp[hz] <;> omega
     ·rw[show (2:Int)^6=64 from by decide,show (2:Int)^(8-6)=4 from by decide];by_cases hz:x%4=0 <;> simp[hz] <;> omega
     ·rw[show (2:Int)^7=128 from by decide,show (2:Int)^(8-7)=2 from by decide];by_cases hz:x%2=0 <;> simp[hz] <;> omega
    rw[e3]
    unfold qaK
    by_cases hz:x%2^(8-m%8)=0
    ·rw[if_neg (by simp[hz]),if_neg (by simp[hz])]
    ·rw[if_pos (by simp[hz]),if_pos ⟨by omega,hz⟩]
theorem quG {x:qD0}(h:x.length≤1000000):yQ F x=some x:=by
 grind [yQ,kG]
theorem qvL {n:Int}(h:b.length≤1000000):qeX F n b=some (n,b):=by
 grind [qeX,quG]
theorem qnB (hF:20000≤F){n m:Nat}{a:qD0}(ha:U8s a)(hb:U8s b)(oa:Ok n a)(ob:Ok m b):qae F n a m b=some (((n+m:Nat):Int),pk (bl a n++bl b m)):=by
 unfold qae
 have hal:a.length≤1000000:=by rw[oa.len];have:=oa.max;omega
 rw[qvL hal]
 simp only[qBi,qfK,qef]
 have hm:=ob.max
 have hn:=oa.max
 have:=qpC (F:=F) (n:=(m:Int)) hb (yy:=fun (p:Int×qD0) (x53:Int)=>qcE F p.1 p.2 x53) (fun l x hl hx hlen=>by
  grind [qcE,quz]) (to:=m) (by rw[ob.len];omega) (by omega) F 0 (bl a n) (by omega) (by omega) (qqx a n) (by rw[qgG];omega)
 rw[qgG,qvS ha oa,qB1,Nat.sub_zero] at this
 simp_all
def I64 (n:Int):Prop:=-9223372036854775808≤n∧n<9223372036854775808
theorem qsv {l:qD0}(hk:k<(l.length+7)/8):(pk l).getD k 0=byt l k:=by
 grind [pk]
theorem qh1 {l:qD0}(h:Bit l):U8s (pk l):=by
 intro x hx
 obtain ⟨k,_,rfl⟩:=qBK.1 hx
 exact qjC h k
theorem qjR (l:qD0):(pk l).length=(l.length+7)/8:=by simp[pk]
theorem qlo {l:qD0}(hm:l.length≤8192):Ok l.length (pk l) where
 max:=hm
 len:=qjR l
 low:=fun h=>by
  grind [qsv,qrU]
theorem qo0 {l:qD0}(h:Bit l){i:Nat}(hi:i<l.length):bitAt (pk l) i=l.getD i 0:=by
 obtain ⟨k,hk⟩:∃ k,k=i/8:=⟨_,rfl⟩
 obtain ⟨r,hr⟩:∃ r,r=i%8:=⟨_,rfl⟩
 have hl:i=8*k+r:=by omega
 have hr8:r<8:=by omega
 obtain ⟨c0,c1,c2,c3,c4,c5,c6,c7⟩:=qrQ (pk l) k
 have hb:(pk l).getD k 0=byt l k:=qsv (by omega)
 rw[hb] at c0 c1 c2 c3 c4 c5 c6 c7
 have hbd:∀ q,0≤l.getD q 0∧l.getD q 0≤1:=fun q=>by have:=h.getD q;omega
 have h0:=hbd (8*k);have h1:=hbd (8*k+1);have h2:=hbd (8*k+2);have h3:=hbd (8*k+3)
 have h4:=hbd (8*k+4);have h5:=hbd (8*k+5);have h6:=hbd (8*k+6);have h7:=hbd (8*k+7)
 clear hbd hb
 unfold byt at c0 c1 c2 c3 c4 c5 c6 c7
 rcases (by omega:r=0∨r=1∨r=2∨r=3∨r=4∨r=5∨r=6∨r=7) with rfl | rfl | rfl | rfl | rfl | rfl | rfl | rfl
 ·rw[hl,Nat.add_zero,c0];clear c0 c1 c2 c3 c4 c5 c6 c7;generalize l.getD (8*k) 0=y0 at *;generalize l.getD (8*k+1) 0=y1 at *;generalize l.getD (8*k+2) 0=y2 at *;generalize l.getD (8*k+3) 0=y3 at *;generalize l.getD (8*k+4) 0=y4 at *;generalize l.getD (8*k+5) 0=y5 at *;generalize l.getD (8*k+6) 0=y6 at *;generalize l.getD (8*k+7) 0=y7 at *;clear h hi hl hr hk hr8;omega
 ·rw[hl,c1];clear c0 c1 c2 c3 c4 c5 c6 c7;generalize l.getD (8*k) 0=y0 at *;generalize l.getD (8*k+1) 0=y1 at *;generalize l.getD (8*k+2) 0=y2 at *;generalize l.getD (8*k+3) 0=y3 at *;generalize l.getD (8*k+4) 0=y4 at *;generalize l.getD (8*k+5) 0=y5 at *;generalize l.getD (8*k+6) 0=y6 at *;generalize l.getD (8*k+7) 0=y7 at *;clear h hi hl hr hk hr8;omega
 ·rw[hl,c2];clear c0 c1 c2 c3 c4 c5 c6 c7;generalize l.getD (8*k) 0=y0 at *;generalize l.getD (8*k+1) 0=y1 at *;generalize l.getD (8*k+2) 0=y2 at *;generalize l.getD (8*k+3) 0=y3 at *;generalize l.getD (8*k+4) 0=y4 at *;generalize l.getD (8*k+5) 0=y5 at *;generalize l.getD (8*k+6) 0=y6 at *;generalize l.getD (8*k+7) 0=y7 at *;clear h hi hl hr hk hr8;omega
 ·rw[hl,c3];clear c0 c1 c2 c3 c4 c5 c6 c7;generalize l.getD (8*k) 0=y0 at *;generalize l.getD (8*k+1) 0=y1 at *;generalize l.getD (8*k+2) 0=y2 at *;generalize l.getD (8*k+3) 0=y3 at *;generalize l.getD (8*k+4) 0=y4 at *;generalize l.getD (8*k+5) 0=y5 at *;generalize l.getD (8*k+6) 0=y6 at *;generalize l.getD (8*k+7) 0=y7 at *;clear h hi hl hr hk hr8;omega
 ·rw[hl,c4];clear c0 c1 c2 c3 c4 c5 c6 c7;generalize l.getD (8*k) 0=y0 at *;generalize l.getD (8*k+1) 0=y1 at *;generalize l.getD (8*k+2) 0=y2 at *;generalize l.getD (8*k+3) 0=y3 at *;generalize l.getD (8*k+4) 0=y4 at *;generalize l.getD (8*k+5) 0=y5 at *;generalize l.getD (8*k+6) 0=y6 at *;generalize l.getD (8*k+7) 0=y7 at *;clear h hi hl hr hk hr8;omega
 ·rw[hl,c5];clear c0 c1 c2 c3 c4 c5 c6 c7;generalize l.getD (8*k) 0=y0 at *;generalize l.getD (8*k+1) 0=y1 at *;generalize l.getD (8*k+2) 0=y2 at *;generalize l.getD (8*k+3) 0=y3 at *;generalize l.getD (8*k+4) 0=y4 at *;generalize l.getD (8*k+5) 0=y5 at *;generalize l.getD (8*k+6) 0=y6 at *;generalize l.getD (8*k+7) 0=y7 at *;clear h hi hl hr hk hr8;omega
 ·rw[hl,c6];clear c0 c1 c2 c3 c4 c5 c6 c7;generalize l.getD (8*k) 0=y0 at *;generalize l.getD (8*k+1) 0=y1 at *;generalize l.getD (8*k+2) 0=y2 at *;generalize l.getD (8*k+3) 0=y3 at *;generalize l.getD (8*k+4) 0=y4 at *;generalize l.getD (8*k+5) 0=y5 at *;generalize l.getD (8*k+6) 0=y6 at *;generalize l.getD (8*k+7) 0=y7 at *;clear h hi hl hr hk hr8;omega
 ·rw[hl,c7];clear c0 c1 c2 c3 c4 c5 c6 c7;generalize l.getD (8*k) 0=y0 at *;generalize l.getD (8*k+1) 0=y1 at *;generalize l.getD (8*k+2) 0=y2 at *;generalize l.getD (8*k+3) 0=y3 at *;generalize l.getD (8*k+4) 0=y4 at *;generalize l.getD (8*k+5) 0=y5 at *;generalize l.getD (8*k+6) 0=y6 at *;generalize l.getD (8*k+7) 0=y7 at *;clear h hi hl hr hk hr8;omega
theorem qg0 {l:qD0}(h:Bit l):bl (pk l) l.length=l:=by
 apply qBU
 grind [bl,qo0]
theorem qo5 {n:Nat}(h:Ok n b):chkOf (n:Int) b=0:=by
 unfold chkOf
 have:=h.max
 have:=h.len
 rw[if_neg (by omega),if_neg (by omega),if_neg]
 rintro ⟨h1,h2⟩
 rw[qBo] at h2
 exact h2 (h.low (by omega))
theorem qxl {n m:Nat}(h:n≤m):(bl b m).take n=bl b n:=by
 unfold bl
 rw[← List.map_take,List.take_range,qC8 h]
theorem vi {l k:qD0}(h:Bit l)(h2:Bit k):Bit (l++k):=by
 intro x hx
 rcases qBn.1 hx with h3 | h3
 ·exact h x h3
 ·exact h2 x h3
theorem two64:(2:Nat)^64=18446744073709551616:=by decide
theorem qnR {n:Nat}(hn:n<18446744073709551616):ishr .u64 (n:Int) (k:Int)=((n/2^k:Nat):Int):=by
 unfold ishr
 rw[Int.fdiv_eq_ediv_of_nonneg _ (by grind),qBo]
 simp only[IntKind.bits]
 by_cases h:k≤64
 ·simp_all
 ·rw[Nat.min_eq_right (by omega)]
  have h1:n/2^64=0:=qDL (by omega)
  have h2:n/2^k=0:=qDL (qDd hn (by rw[← two64];exact qBW (by decide) (by omega)))
  omega
theorem qxQ {n:Nat}(hn:n<18446744073709551616):iand .u64 (n:Int) 1=((n%2:Nat):Int):=by
 have e:=qhA (k:=.u64) (a:=(n:Int)) (m:=1) (by omega) (by grind [IntKind.bits]) (by decide) rfl
 simp_all
theorem qqT {n:Nat}(hk:k≤64):ishl .u64 (n:Int) (k:Int)=((n*2^k%18446744073709551616:Nat):Int):=by
 grind [qlg]
theorem qAU {b m:Nat}(ha:a<2^m)(hb:b%2^m=0)(h:a+b<18446744073709551616):ior .u64 (b:Int) (a:Int)=((b+a:Nat):Int):=by
 rw[qpp,qsg (m:=m) (by omega) (by exact_mod_cast ha) (by omega) (by exact_mod_cast hb) rfl (by grind [IntKind.bits])]
 omega
theorem qb0 {b:Nat}(h:a+b<9223372036854775808):iadd .i64 (a:Int) (b:Int)=((a+b:Nat):Int):=by grind [zb]
theorem qu (h:a+1<9223372036854775808):iadd .i64 (a:Int) 1=((a+1:Nat):Int):=by grind [zb]
theorem qqV {b:Nat}(h:b≤a)(h2:a<9223372036854775808):isub .i64 (a:Int) (b:Int)=((a-b:Nat):Int):=by grind [zN]
theorem qdW (h:1≤a)(h2:a<9223372036854775808):isub .i64 (a:Int) 1=((a-1:Nat):Int):=by grind [zN]
def nb (n:Nat):Nat→qD0
 | 0=>[]
 | w+1=>((n/2^w%2:Nat):Int)::nb n w
theorem qdf (n:Nat):∀ w,(nb n w).length=w
 | 0=>rfl
 | w+1=>by simp[nb,qdf n w]
theorem qlm (n:Nat):∀ w,Bit (nb n w)
 | 0=>by intro x hx;simp[nb] at hx
 | w+1=>by
  intro x hx
  rcases qBp.1 hx with rfl | h
  ·omega
  ·exact qlm n w x h
def bv (l:qD0):Nat:=l.foldl (fun n b=>2*n+b.toNat) 0
theorem qxm (l:qD0):∀ m,l.foldl (fun n b=>2*n+b.toNat) m=m*2^l.length+bv l:=by
 induction l with
 | nil=>intro m;simp[bv]
 | cons x l ih =>
  intro m
  show l.foldl _ _=_
  rw[ih]
  show _=_+l.foldl _ _
  grind
theorem qzE (l k:qD0):bv (l++k)=bv l*2^k.length+bv k:=by
 grind [bv,qxm]
theorem qnC (x:Int)(l:qD0):bv (x::l)=x.toNat*2^l.length+bv l:=by
 have:=qzE [x] l
 simpa[bv] using this
theorem qrT {l:qD0}(h:Bit l):bv l<2^l.length:=by
 induction l with
 | nil=>simp[bv]
 | cons x l ih =>
  have h1:=ih (fun y hy=>h y (qBz _ hy))
  rw[qnC,qBQ,qDM]
  rcases h x qBv with rfl | rfl
  ·simp;omega
  ·simp;omega
theorem qkY (n:Nat):∀ w,bv (nb n w)=n%2^w
 | 0=>by simp[nb,bv,Nat.mod_one]
 | w+1=>by
  rw[nb,qnC,qdf,qkY n w,qBo,qDM,Nat.mod_mul,Nat.mul_comm,qCZ]
theorem qvB (n a:Nat):∀ b,nb n (b+a)=nb (n/2^a) b++nb n a
 | 0=>by simp[nb]
 | b+1=>by
  rw[show b+1+a=(b+a)+1 from by omega,nb,qvB n a b,nb,qCb]
  congr 3
  grind [Nat.div_div_eq_div_mul]
theorem qxZ (n w:Nat):nb n (w+1)=nb (n/2) w++[((n%2:Nat):Int)]:=by
 have:=qvB n 1 w
 simpa[nb] using this
theorem qpv {F:Nat}{n:Nat}(hn:n<18446744073709551616):∀ (w k:Nat) (l:qD0),w<k→Bit l→l.length+w≤100000 →
  jS F (n:Int) k ((w:Int)-1,(l.length:Int),pk l)=some (((l.length+w:Nat):Int),pk (l++nb n w))
 | _,0,_,h,_,_=>by omega
 | 0,k+1,l,_,_,_=>by
  show kY F (n:Int) _ (((0:Nat):Int)-1) (l.length:Int) (pk l)=_
  grind [kY,nb]
 | w+1,k+1,l,h,hl,hm=>by
  show kY F (n:Int) (jS F (n:Int) k) (((w+1:Nat):Int)-1) (l.length:Int) (pk l)=_
  unfold kY
  rw[show ((w+1:Nat):Int)-1=(w:Int) from by omega,if_pos (by simp)]
  have hc:decide ((0:Int)≤(w:Int))=true:=decide_eq_true (by omega)
  rw[hc]
  simp only[chk,if_true]
  rw[qnR hn,qxQ (by have:=qCx n (2^w);omega)]
  have hx:((n/2^w%2:Nat):Int)=0∨((n/2^w%2:Nat):Int)=1:=by omega
  rw[quz hl hx (by omega)]
  simp only[qBi]
  rw[zN (by omega) (by omega)]
  have:=qpv (F:=F) hn w k (l++[((n/2^w%2:Nat):Int)]) (by omega) (vi hl (by intro y hy;simp_all)) (by grind)
  rw[show (l++[((n/2^w%2:Nat):Int)]).length=l.length+1 from by simp] at this
  rw[this,qBt,show l.length+1+w=l.length+(w+1) from by omega]
  rfl
theorem qtI {n:Nat}{l:qD0}(hn:n<18446744073709551616)(hF:w<F)(hl:Bit l)(hm:l.length+w≤100000) :
  jh F (l.length:Int) (pk l) (n:Int) (w:Int)=some (((l.length+w:Nat):Int),pk (l++nb n w)):=by
 unfold jh
 rw[zN (by omega) (by omega)]
 grind [qpv]
theorem qzv {n m:Nat}(hn:n<18446744073709551616)(hF:w<F)(hb:U8s b)(ob:Ok m b)(hw:w≤10000) :
  vA F (m:Int) b (n:Int) (w:Int)=some (((m+w:Nat):Int),pk (bl b m++nb n w)):=by
 unfold vA
 have:=ob.max
 rw[qvL (by rw[ob.len];omega)]
 grind [qtI,qqx,qgG,qvS]
def putOf (m:Int)(b:qD0)(n w:Int):Int :=
 if chkOf m b≠0 then chkOf m b else if w<0∨64<w∨2^w.toNat≤n then 3 else if 8192<m+w then 8 else 0
def pt (m:Int)(b:qD0)(n w:Int):Int×qD0×Int :=
 if putOf m b n w≠0 then (0,[],putOf m b n w) else (m+w,pk (bl b m.toNat++nb n.toNat w.toNat),0)
def U64 (n:Int):Prop:=0≤n∧n<18446744073709551616
theorem qzD {n i:Nat}(h:i<n):(bl b n)[i]?=some (bitAt b i):=by simp[bl,h]
theorem qv7 {F:Nat}{n:Int}{m a w:Nat}{b:qD0}(hb:U8s b)(hlen:m≤8*b.length)(hm:m≤10000)(ha:a+w≤m)(hw:w≤64):∀ (k i v:Nat),w<k+i→i≤w→v<2^i →
  qeW F n b (a:Int) (w:Int) k ((v:Int),(i:Int))=some (((v*2^(w-i)+bv (((bl b m).drop (a+i)).take (w-i)):Nat):Int),true)
 | 0,_,_,_,_,_=>by omega
 | k+1,i,v,h,hi,hv=>by
  show qeU F n b (a:Int) (w:Int) (qeW F n b (a:Int) (w:Int) k) (v:Int) (i:Int)=_
  unfold qeU
  by_cases hlt:i<w
  ·rw[if_pos (by simp_all),qb0 (by omega),quv hb (by omega) (by omega)]
   simp only[qBi]
   have hx:=qjB b (a+i)
   have hv64:2*v+1<18446744073709551616:=by
    have:2^(i+1)≤2^64:=qBW (by decide) (by omega)
    omega
   obtain ⟨x,hxe⟩:∃ x:Nat,bitAt b (a+i)=(x:Int):=qBm (by omega)
   have hx1:x<2:=by omega
   have e1:ishl .u64 (v:Int) 1=((v*2:Nat):Int):=by
    have:=qqT (n:=v) (k:=1) (by decide)
    grind
   have e2:ior .u64 ((v*2:Nat):Int) (x:Int)=((v*2+x:Nat):Int):=qAU (m:=1) (by omega) (by omega) (by omega)
   rw[hxe,e1,e2,qu (by omega)]
   rw[qv7 hb hlen hm ha hw k (i+1) (v*2+x) (by omega) (by omega) (by omega)]
   have hd:((bl b m).drop (a+i)).take (w-i)=(x:Int)::((bl b m).drop (a+(i+1))).take (w-(i+1)):=by
    rw[qBq (by rw[qgG];omega),show w-i=(w-(i+1))+1 from by omega,List.take_succ_cons,show a+i+1=a+(i+1) from by omega]
    congr 1
    have:=qzD (b:=b) (n:=m) (i:=a+i) (by omega)
    grind
   rw[hd,qnC,qBo]
   have hl:(((bl b m).drop (a+(i+1))).take (w-(i+1))).length=w-(i+1):=by simp[qgG];omega
   rw[hl,show w-i=(w-(i+1))+1 from by omega,qDM,Nat.add_mul]
   grind
  ·rw[if_neg (by simp_all)]
   rw[show w-i=0 from by omega]
   simp[qeV,bv]
theorem qya {m:Nat}(hF:100≤F)(hb:U8s b)(ob:Ok m b)(ha:a≤m)(hw:w≤64) :
  jf F (m:Int) b (a:Int) (w:Int)=some (if a+w≤m then (((bv (((bl b m).drop a).take w):Nat):Int),true) else (0,false)):=by
 unfold jf
 have hmx:=ob.max
 rw[qqV ha (by omega)]
 by_cases h:a+w≤m
 ·rw[if_neg (by grind),if_pos h]
  have:=qv7 (F:=F) (n:=(m:Int)) (m:=m) (a:=a) (w:=w) hb (by rw[ob.len];omega) (by omega) h hw F 0 0 (by omega) (by omega) (by decide)
  simp_all
 grind
theorem qeb {n:Nat}(h:n<9223372036854775808):iconv .i64 (n:Int)=(n:Int):=yb (by omega) (by omega)
theorem vu {n:Nat}(h:n<18446744073709551616):iconv .u64 (n:Int)=(n:Int):=jB (by omega) (by omega)
theorem qAM {l:qD0}(h:Bit l){i:Nat}(hi:i<l.length):∃ x:Nat,l[i]?=some (x:Int)∧x<2:=by
 have:=h l[i] (qBE hi)
 obtain ⟨x,hx⟩:=qBm (show 0≤l[i] by omega)
 grind
theorem qlM {α:Type}{l:List α}{i j:Nat}(h1:i≤j)(h2:j≤l.length):sub l (i:Int) (j:Int)=some ((l.take j).drop i):=by
 grind [sub]
theorem qhj {l:qD0}(h:Bit l)(i:Nat):Bit (l.drop i):=fun x hx=>h x (List.mem_of_mem_drop hx)
theorem qiU {l:qD0}(h:Bit l)(i:Nat):Bit (l.take i):=fun x hx=>h x (List.mem_of_mem_take hx)
theorem qk1 {n:Int}(hb:U8s b):chkOf n b≠0∨∃ l:qD0,Bit l∧l.length≤8192∧n=(l.length:Int)∧b=pk l:=by
 by_cases h:chkOf n b=0
 ·obtain ⟨m,rfl,ob⟩:=quE h
  exact .inr ⟨bl b m,qqx _ _,by rw[qgG];exact ob.max,by rw[qgG],(qvS hb ob).symm⟩
 omega
theorem qk2 {l:qD0}(hm:l.length≤8192):chkOf (l.length:Int) (pk l)=0:=qo5 (qlo hm)
theorem qsw {l:qD0}(h:l.length≤8192):(pk l).length≤9223372036854775807:=by rw[qjR];omega
theorem qpB {l:qD0}(h:l.length≤8192):(pk l).length≤2000:=by rw[qjR];omega
theorem qvT {l k:qD0}(hl:Bit l)(hk:Bit k)(h:l.length=k.length)(e:pk l=pk k):l=k:=by
 grind [qg0]
def un (n:Nat):qD0:=qBj n 0++[1]
theorem qiz (n:Nat):(un n).length=n+1:=by simp[un]
theorem qgF (n:Nat):Bit (qBj n 0):=by intro x hx;simp_all
theorem qrR:Bit [1]:=by intro x hx;simp_all
theorem qox (n:Nat):Bit (un n):=vi (qgF n) qrR
theorem qz9 (n:Nat):pk (qBj n 0)=qBj ((n+7)/8) 0:=by
 unfold pk
 rw[qBP]
 apply qBU
 grind [byt]
theorem qim {n:Nat}{l:qD0}(hn:n<18446744073709551616)(hF:w<F)(hl:Bit l)(hm:l.length≤8192)(hw:w≤10000) :
  vA F (l.length:Int) (pk l) (n:Int) (w:Int)=some (((l++nb n w).length:Int),pk (l++nb n w)):=by
 grind [qzv,qh1,qlo,qg0,qdf]
theorem qv4 {n:Nat}(hF:20000≤F)(hn:n<8192):qd9 F (n:Int)=some (((un n).length:Int),pk (un n)):=by
 unfold qd9
 have e:iquo .u64 (iadd .u64 (n:Int) 7) 8=(((n+7)/8:Nat):Int):=by
  grind [iquo,iadd,jB]
 rw[e]
 have hmk:mk 140737488355328 (0:Int) (((n+7)/8:Nat):Int)=some (pk (qBj n 0)):=by
  unfold mk
  rw[if_pos (by omega),qBo,qz9]
 rw[hmk]
 simp only[qBi]
 rw[qeb (by omega)]
 have h:=qim (F:=F) (n:=1) (w:=1) (l:=qBj n 0) (by decide) (by omega) (qgF n) (by grind) (by decide)
 rw[qBP] at h
 rw[show ((1:Nat):Int)=1 from rfl] at h
 rw[h]
 rfl
def fz:qD0→Option Nat
 | []=>none
 | x::l=>if x=1 then some 0 else (fz l).map (·+1)
theorem qy4 (n:Nat)(r:qD0):fz (un n++r)=some n:=by
 induction n with
 | zero=>rfl
 | succ n ih =>
  grind [un,fz]
theorem qy3 {l:qD0}{n:Nat}(h:fz l=some n):n<l.length:=by
 induction l generalizing n with
 | nil=>simp[fz] at h
 | cons x l ih =>
  unfold fz at h
  split at h
  ·grind
  ·cases hf:fz l with
   | none=>simp_all
   | some m=>grind
theorem qoZ {m:Int}{l:qD0}(hl:Bit l)(hm:l.length≤90000){i:Nat}(hi:i<l.length):qaY F m (pk l) (i:Int)=some l[i]:=by
 grind [quv,qh1,qjR,qo0]
theorem qu7 {F:Nat}{l:qD0}(hl:Bit l)(hm:l.length≤8192)(a:Nat):∀ (k i:Nat),l.length<k+i→i≤l.length→a≤i →
  qeA F (l.length:Int) (pk l) (a:Int) k (i:Int)=some (match fz (l.drop i) with | none=>(0,0,false) | some n=>(((i-a+n:Nat):Int),((i+n+1:Nat):Int),true))
 | 0,_,_,_,_=>by omega
 | k+1,i,h,hi,ha=>by
  show qez F (l.length:Int) (pk l) (a:Int) (qeA F (l.length:Int) (pk l) (a:Int) k) (i:Int)=_
  unfold qez
  by_cases hlt:i<l.length
  ·rw[if_pos (by simp_all),qoZ hl (by omega) hlt,qBq hlt,fz]
   simp only[qBi]
   by_cases h1:l[i]=1
   ·grind [qqV,vu,qu]
   ·rw[if_neg (by grind),if_neg h1,qu (by omega),qu7 hl hm a k (i+1) (by omega) (by omega) (by omega)]
    grind
  ·rw[if_neg (by simp_all),qBu (by omega)]
   rfl
theorem qr8 (hF:20000≤F){l:qD0}(hl:Bit l)(hm:l.length≤8192)(ha:a≤l.length) :
  qdb F (l.length:Int) (pk l) (a:Int)=some (match fz (l.drop a) with | none=>(0,0,false) | some n=>((n:Int),((a+n+1:Nat):Int),true)):=by
 unfold qdb
 have:=qu7 (F:=F) hl hm a F a (by omega) ha (by omega)
 simp_all
def raOf (m:Int)(b:qD0)(a:Int):Int:=if chkOf m b≠0 then chkOf m b else if a<0∨m<a then 3 else 0
theorem qrS (hF:20000≤F){l k:qD0}(hl:Bit l)(hk:Bit k)(h1:l.length≤8192)(h2:k.length≤8192) :
  qae F (l.length:Int) (pk l) (k.length:Int) (pk k)=some (((l++k).length:Int),pk (l++k)):=by
 grind [qnB,qh1,qlo,qg0]
def len (x:Nat):Nat:=if x=0 then 0 else x.log2+1
theorem qfi:len x≤k↔x<2^k:=by
 grind [len,Nat.log2_lt]
theorem qlk (h1:x<2^k)(h2:k=0∨2^(k-1)≤x):len x=k:=by
 have h3:=qfi.2 h1
 rcases h2 with rfl | h2
 ·omega
 ·by_cases h4:len x≤k-1
  ·have:=qfi.1 h4;omega
  ·omega
theorem qqZ:x<2^len x:=qfi.1 (qBw _)
theorem qqY (h:x≠0):2^(len x-1)≤x:=by
 have h1:1≤len x:=by grind [len]
 apply Nat.le_of_not_lt
 intro h2
 have:=qfi.2 h2
 omega
theorem qnU (h:x≠0):1≤len x:=by grind [len]
theorem qjN (h:2^k≤x):len (x/2^k)+k=len x:=by
 have hp:0<2^k:=qCN (by decide)
 have hx:x≠0:=by omega
 have hd:x/2^k≠0:=by
  simp_all
 symm
 apply qlk
 ·grind [qqZ,Nat.div_lt_iff_lt_mul]
 ·right
  have h1:=qnU hd
  have:=qqY hd
  rw[show len (x/2^k)+k-1=len (x/2^k)-1+k from by omega,qDW]
  grind [Nat.le_div_iff_mul_le]
theorem qxU:∀ x:Fin 256,∀ k:Fin 8,yW 0 ((x.val:Nat):Int) ((8*k.val:Nat):Int)=some ((len x.val+8*k.val:Nat):Int):=by decide +kernel
theorem qsk (hx:x<256)(hk:k≤56)(h8:k%8=0):yW F (x:Int) (k:Int)=some ((len x+k:Nat):Int):=by
 have h:=qxU ⟨x,hx⟩ ⟨k/8,by omega⟩
 simp only at h
 rw[show 8*(k/8)=k from by omega] at h
 exact h
theorem qsj (hx:x<65536)(hk:k≤48)(h8:k%8=0):yV F (x:Int) (k:Int)=some ((len x+k:Nat):Int):=by
 unfold yV
 by_cases h:256≤x
 ·have e:=qnR (n:=x) (k:=8) (by omega)
  rw[show ((8:Nat):Int)=8 from rfl] at e
  have e2:iadd .i64 (k:Int) 8=((k+8:Nat):Int):=by grind [zb]
  rw[if_pos (by grind),e,e2,qsk (by omega) (by omega) (by omega),← qjN (x:=x) (k:=8) (by omega)]
  grind
 grind [qsk]
theorem qsi (hx:x<4294967296)(hk:k≤32)(h8:k%8=0):yU F (x:Int) (k:Int)=some ((len x+k:Nat):Int):=by
 unfold yU
 by_cases h:65536≤x
 ·have e:=qnR (n:=x) (k:=16) (by omega)
  rw[show ((16:Nat):Int)=16 from rfl] at e
  have e2:iadd .i64 (k:Int) 16=((k+16:Nat):Int):=by grind [zb]
  rw[if_pos (by grind),e,e2,qsj (by omega) (by omega) (by omega),← qjN (x:=x) (k:=16) (by omega)]
  grind
 grind [qsj]
theorem qlj (hx:x<18446744073709551616):ve F (x:Int)=some ((len x:Nat):Int):=by
 unfold ve
 by_cases h:4294967296≤x
 ·have e:=qnR (n:=x) (k:=32) (by omega)
  rw[show ((32:Nat):Int)=32 from rfl] at e
  have:=qsi (F:=F) (x:=x/2^32) (k:=32) (by omega) (by omega) (by omega)
  rw[show ((32:Nat):Int)=32 from rfl] at this
  rw[if_pos (by grind),e,this,qjN (x:=x) (k:=32) (by omega)]
 ·have:=qsi (F:=F) (x:=x) (k:=0) (by omega) (by omega) (by omega)
  grind
def lg (n:Nat):Nat:=len (n+1)-1
theorem qy8 {n:Nat}:2^lg n≤n+1:=qqY (by omega)
theorem qy9 {n:Nat}:n+1<2^(lg n+1):=by
 grind [lg,qqZ]
theorem qtF {n:Nat}(h1:2^k≤n+1)(h2:n+1<2^(k+1)):lg n=k:=by
 grind [qlk,lg]
theorem qgn {n:Nat}(h:n≤1099511627776):lg n≤40:=by
 have:len (n+1)≤41:=qfi.2 (by omega)
 unfold lg;omega
theorem qAZ {n:Nat}(h:n+1<18446744073709551616):lg n≤63:=by
 have:len (n+1)≤64:=qfi.2 (by omega)
 unfold lg;omega
theorem qyc {n:Nat}(h:n+1<18446744073709551616):qeD F (n:Int)=some ((lg n:Nat):Int):=by
 unfold qeD
 have e:iadd .u64 (n:Int) 1=((n+1:Nat):Int):=by grind [iadd,jB]
 rw[e,qlj (by omega)]
 simp only[qBi]
 have h1:=qnU (x:=n+1) (by omega)
 have h2:len (n+1)≤64:=qfi.2 (by omega)
 rw[qdW h1 (by omega)]
 rfl
theorem pow64 (h:k≤63):2^k≤9223372036854775808:=by
 have:=qBW (show 0<2 by decide) h
 omega
theorem qjY (h:k≤63):ishl .u64 1 (k:Int)=((2^k:Nat):Int):=by
 have:=qqT (n:=1) (k:=k) (by omega)
 rw[show ((1:Nat):Int)=1 from rfl] at this
 have hp:=pow64 h
 omega
theorem qlT {b:Nat}(h:b≤a)(h2:a<18446744073709551616):isub .u64 (a:Int) (b:Int)=((a-b:Nat):Int):=by
 grind [isub,jB]
theorem qkD (h:1≤a)(h2:a<18446744073709551616):isub .u64 (a:Int) 1=((a-1:Nat):Int):=by
 grind [isub,jB]
theorem qrB {b:Nat}(h2:a+b<18446744073709551616):iadd .u64 (a:Int) (b:Int)=((a+b:Nat):Int):=by
 grind [iadd,jB]
theorem qow (h2:a+1<18446744073709551616):iadd .u64 (a:Int) 1=((a+1:Nat):Int):=by
 grind [iadd,jB]
theorem qzW {n:Nat}(hn:n<18446744073709551616)(hk:k≤63):qfu F (n:Int) (k:Int)=some ((n%2^k:Nat):Int):=by
 unfold qfu
 have hp:=pow64 hk
 have hp0:0<2^k:=qCN (by decide)
 have hc:decide ((0:Int)≤(k:Int))=true:=decide_eq_true (by omega)
 rw[hc]
 simp only[chk,if_true,lett]
 rw[qjY hk,qkD (by omega) (by omega)]
 have e:=qhA (k:=.u64) (a:=(n:Int)) (m:=k) (by omega) (by grind [IntKind.bits]) (by grind [IntKind.bits]) rfl
 simp_all
theorem qvC {n:Nat}(h:w≤k):nb (n%2^k) w=nb n w:=by
 induction w with
 | zero=>rfl
 | succ w ih =>
  rw[nb,nb,ih (by omega)]
  congr 2
  have hp:2^k=2^w*2^(k-w):=by rw[← qDW];grind
  rw[hp,Nat.mod_mul_right_div_self]
  have hp2:2^(k-w)=2*2^(k-w-1):=by rw[← qDk];grind
  simp_all
def ga (n:Nat):qD0:=un (lg n)++nb (n+1) (lg n)
theorem qir (n:Nat):Bit (ga n):=vi (qox _) (qlm _ _)
theorem qk9 (n:Nat):(ga n).length=2*lg n+1:=by grind [ga,qiz,qdf]
theorem qkb {n:Nat}(hF:20000≤F)(hn:n+1<18446744073709551616):jW F (n:Int)=some (((ga n).length:Int),pk (ga n)):=by
 unfold jW
 have h63:=qAZ hn
 rw[qyc hn]
 simp only[qBi]
 rw[vu (by omega),qv4 hF (by omega)]
 simp only[qBi]
 rw[qow hn,qzW hn h63]
 simp only[qBi]
 have hlt:(n+1)%2^lg n<18446744073709551616:=by have:=Nat.mod_le (n+1) (2^lg n);omega
 rw[qim hlt (by omega) (qox _) (by rw[qiz];omega) (by omega),qvC (qBw _)]
 rfl
def numOf (l:qD0)(k a:Nat):Int×Int×Int :=
 if 64≤k then (0,0,3) else if l.length<a+k then (0,0,7) else if 1099511627776<bv ((l.drop a).take k)+2^k-1 then (0,0,3) else (((bv ((l.drop a).take k)+2^k-1:Nat):Int),((a+k:Nat):Int),0)
def fg (l:qD0)(a:Nat):Int×Int×Int:=match fz (l.drop a) with | none=>(0,0,7) | some k=>numOf l k (a+k+1)
theorem qgP {l:qD0}(hF:100≤F)(hl:Bit l)(hm:l.length≤8192)(ha:a≤l.length)(hw:w≤64) :
  jf F (l.length:Int) (pk l) (a:Int) (w:Int)=some (if a+w≤l.length then (((bv ((l.drop a).take w):Nat):Int),true) else (0,false)):=by
 grind [qya,qh1,qlo,qg0]
theorem qu4 {l:qD0}:(fg l a).2.2≠0∨∃ n q:Nat,fg l a=((n:Int),(q:Int),0)∧n≤1099511627776∧q≤l.length:=by
 unfold fg
 cases hf:fz (l.drop a) with
 | none=>simp
 | some k =>
  simp only
  unfold numOf
  by_cases h1:64≤k
  ·simp_all
  ·rw[if_neg h1]
   by_cases h2:l.length<a+k+1+k
   ·simp_all
   ·rw[if_neg h2]
    by_cases h3:1099511627776<bv ((l.drop (a+k+1)).take k)+2^k-1
    ·simp_all
    ·right;rw[if_neg h3];exact ⟨_,_,rfl,by omega,by omega⟩
theorem qq5 {l:qD0}(hF:20000≤F)(hl:Bit l)(hm:l.length≤8192)(ha:a≤l.length) :
  (if decide ((64:Int)≤(k:Int)) then some ((0:Int),(0:Int),(3:Int)) else ((jf F (l.length:Int) (pk l) (a:Int) (iconv .i64 (k:Int))).bind fun x10=>(if (!x10.2) then some (0,0,7) else (chk (decide ((0:Int)≤(k:Int))) ((lett (iadd .u64 x10.1 (isub .u64 (ishl .u64 1 (k:Int)) 1)) fun x16=>(if (decide (1099511627776<x16)) then some (0,0,3) else some (x16,iadd .i64 (a:Int) (iconv .i64 (k:Int)),0))))))))=some (numOf l k a):=by
 unfold numOf
 by_cases h1:64≤k
 ·grind
 ·rw[if_neg (by grind),if_neg h1,qeb (by omega),qgP (by omega) hl hm ha (by omega)]
  simp only[qBi]
  by_cases h2:a+k≤l.length
  ·rw[if_pos h2,if_neg (show ¬ l.length<a+k by omega)]
   have hc:decide ((0:Int)≤(k:Int))=true:=decide_eq_true (by omega)
   simp only[qCe,qBy,if_false,hc,chk,if_true,lett]
   have hb:=qrT (qiU (qhj hl a) k)
   rw[qB7,qCc,qC8 (by omega)] at hb
   have hp:=pow64 (k:=k) (by omega)
   have hp0:0<2^k:=qCN (by decide)
   rw[qjY (by omega),qkD (by omega) (by omega),qrB (by omega),qb0 (by omega),show bv ((l.drop a).take k)+(2^k-1)=bv ((l.drop a).take k)+2^k-1 from by omega]
   grind
  grind
theorem qi2 {l:qD0}(hF:20000≤F)(hl:Bit l)(hm:l.length≤8192)(ha:a≤l.length):jq F (l.length:Int) (pk l) (a:Int)=some (fg l a):=by
 unfold jq kp qbZ
 rw[qr8 hF hl hm ha]
 unfold fg
 cases hf:fz (l.drop a) with
 | none=>rfl
 | some k =>
  have hk:=qy3 hf
  rw[qCc] at hk
  simp only[qBi,qCe,qBy,if_false,bne_self_eq_false]
  rw[qq5 hF hl hm (by omega)]
  rfl
def rd (f:qD0→Nat→Int×Int×Int)(m:Int)(b:qD0)(a:Int):Int×Int×Int:=if raOf m b a≠0 then (0,0,raOf m b a) else f (bl b m.toNat) a.toNat
theorem qvG {n:Nat}(hn:n≤1099511627776)(p r:qD0):numOf (p++nb (n+1) (lg n)++r) (lg n) p.length=((n:Int),((p.length+lg n:Nat):Int),0):=by
 have h40:=qgn hn
 have h1:=qy8 (n:=n)
 have h2:=qy9 (n:=n)
 have hp0:0<2^lg n:=qCN (by decide)
 have hbv:bv (((p++nb (n+1) (lg n)++r).drop p.length).take (lg n))=n+1-2^lg n:=by
  rw[qBt,List.drop_left,qCJ (qdf _ _),qkY]
  rw[qDM] at h2
  rw[Nat.mod_eq_sub_mod h1,qB8 (by omega)]
 grind [numOf,qdf]
theorem qAQ {n:Nat}(hn:n≤1099511627776)(p r:qD0):fg (p++ga n++r) p.length=((n:Int),((p.length+(ga n).length:Nat):Int),0):=by
 unfold fg
 have h0:(p++ga n++r).drop p.length=un (lg n)++(nb (n+1) (lg n)++r):=by
  grind [ga]
 grind [qy4,qvG,qiz,qk9]
def sh (m:Nat):Nat:=len (m-1)
def dd (m:Nat):Nat:=2^sh m-m
theorem qzg {m:Nat}(h:1≤m):m≤2^sh m:=by grind [qqZ,sh]
theorem qsV {m:Nat}(h:m≤9223372036854775808):sh m≤63:=qfi.2 (by omega)
theorem qA7 {m:Nat}(h:2≤m):1≤sh m∧2^(sh m-1)<m:=by
 grind [qnU,qqY,sh]
theorem qBh:sh 1=0:=rfl
theorem qjD {m:Nat}(h:1≤m):m+dd m=2^sh m:=by grind [qzg,dd]
theorem qpd {m:Nat}(h:1≤m)(hd:0<dd m):1≤sh m∧dd m<2^(sh m-1):=by
 by_cases h2:2≤m
 ·obtain ⟨h3,h4⟩:=qA7 h2
  have h5:=qjD h
  have h6:2^sh m=2*2^(sh m-1):=by rw[← qDk];simp_all
  omega
 ·obtain rfl:m=1:=by omega
  simp[dd,qBh] at hd
theorem qhw {m:Nat}(h:1≤m)(h2:m≤9223372036854775808):qbE F (m:Int)=some ((sh m:Int),(dd m:Int)):=by
 unfold qbE
 have h63:=qsV h2
 have hl:=qzg h
 rw[qkD h (by omega),qlj (by omega)]
 simp only[qBi]
 have hc:decide ((0:Int)≤((len (m-1):Nat):Int))=true:=decide_eq_true (by omega)
 rw[hc]
 simp only[chk,if_true]
 have hp:=pow64 h63
 have e:=qjY h63
 unfold sh at e hl hp
 rw[e,qlT hl (by omega)]
 rfl
def le (n m:Nat):qD0:=if n<dd m then nb n (sh m-1) else nb (n+dd m) (sh m)
theorem qzV (n m:Nat):Bit (le n m):=by grind [le,qlm]
theorem qvr (n m:Nat):(le n m).length=if n<dd m then sh m-1 else sh m:=by grind [le,qdf]
theorem qoY {n m:Nat}{l:qD0}(hF:20000≤F)(hl:Bit l)(hlm:l.length≤8192)(hm:m≤9223372036854775808)(hn:n<m) :
  qbg F (l.length:Int) (pk l) (n:Int) (m:Int)=some (((l++le n m).length:Int),pk (l++le n m)):=by
 unfold qbg le
 have h63:=qsV hm
 have ha:=qjD (m:=m) (by omega)
 have hp:=pow64 h63
 rw[qhw (by omega) hm]
 simp only[qBi]
 by_cases h:n<dd m
 ·obtain ⟨h1,h2⟩:=qpd (m:=m) (by omega) (by omega)
  grind [qdW,qim]
 ·rw[if_neg (by simp_all),if_neg h,qrB (by omega),qim (by omega) (by omega) hl hlm (by omega)]
  rfl
def flR (l:qD0)(a m:Nat):Option (Nat×Nat):=if a+sh m≤l.length then some (bv ((l.drop a).take (sh m))-dd m,a+sh m) else none
def flOf (l:qD0)(a m:Nat):Option (Nat×Nat) :=
 if 0<dd m then (if a+(sh m-1)≤l.length then (if bv ((l.drop a).take (sh m-1))<dd m then some (bv ((l.drop a).take (sh m-1)),a+(sh m-1)) else flR l a m) else none) else flR l a m
theorem qor {l:qD0}(hl:Bit l)(hs:1≤s)(h:a+s≤l.length):∃ x,x<2∧bv ((l.drop a).take s)=2*bv ((l.drop a).take (s-1))+x:=by
 obtain ⟨x,hx,hx2⟩:=qAM (qhj hl a) (i:=s-1) (by grind)
 refine ⟨x,hx2,?_⟩
 have:(l.drop a).take s=(l.drop a).take (s-1)++[(x:Int)]:=by
  have h1:s=(s-1)+1:=by omega
  grind [List.take_add_one]
 grind [bv]
theorem qy2 {l:qD0}(hl:Bit l){m n q:Nat}(hm:1≤m)(h:flOf l a m=some (n,q)):n<m∧q≤l.length:=by
 have hR:flR l a m=some (n,q)→n<m∧q≤l.length:=by
  intro h
  unfold flR at h
  grind [qrT,qiU,qhj,qB7,qjD]
 unfold flOf at h
 split at h
 ·rename_i h0
  split at h
  ·split at h
   ·simp only[qBs,Prod.mk.injEq] at h
    have h1:=qpd hm h0
    have h2:=qjD hm
    have h6:2^sh m=2*2^(sh m-1):=by rw[← qDk];simp_all
    omega
   simp_all
  simp_all
 simp_all
theorem qnJ {m:Nat}{l:qD0}(hF:20000≤F)(hl:Bit l)(hlm:l.length≤8192)(ha:a≤l.length)(hm1:1≤m)(hm:m≤9223372036854775808) :
  match flOf l a m with
  | none=>∃ x y,zS F (l.length:Int) (pk l) (a:Int) (m:Int)=some (x,y,false)
  | some p=>zS F (l.length:Int) (pk l) (a:Int) (m:Int)=some ((p.1:Int),(p.2:Int),true):=by
 have h63:=qsV hm
 have hadd:=qjD hm1
 have hp:=pow64 h63
 have hj1:(0<dd m→¬ bv ((l.drop a).take (sh m-1))<dd m)→match flR l a m with
   | none=>∃ x y,zX F (l.length:Int) (pk l) (a:Int) ((sh m:Int),(dd m:Int))=some (x,y,false)
   | some p=>zX F (l.length:Int) (pk l) (a:Int) ((sh m:Int),(dd m:Int))=some ((p.1:Int),(p.2:Int),true):=by
  intro hge
  unfold flR zX
  simp only
  rw[qgP (by omega) hl hlm ha (by omega)]
  simp only[qBi]
  by_cases h:a+sh m≤l.length
  ·rw[if_pos h,if_pos h]
   simp only
   have hb:=qrT (qiU (qhj hl a) (sh m))
   rw[qB7,qCc,qC8 (by omega)] at hb
   grind [qor,qlT,qb0]
  ·rw[if_neg h,if_neg h]
   simp
 by_cases h0:0<dd m
 ·obtain ⟨h1,h2⟩:=qpd hm1 h0
  by_cases h3:a+(sh m-1)≤l.length
  ·by_cases h4:bv ((l.drop a).take (sh m-1))<dd m
   ·have e:flOf l a m=some (bv ((l.drop a).take (sh m-1)),a+(sh m-1)):=by grind [flOf]
    rw[e]
    unfold zS
    rw[qhw hm1 hm]
    simp only[qBi]
    rw[if_pos (by simp_all),qdW h1 (by omega),qgP (by omega) hl hlm ha (by omega),if_pos h3]
    simp only[qBi,qCe,qBy,if_false]
    rw[if_pos (by simp_all),qb0 (by omega),qdW (by omega) (by omega),show a+sh m-1=a+(sh m-1) from by omega]
   ·have e:flOf l a m=flR l a m:=by grind [flOf]
    have e2:zS F (l.length:Int) (pk l) (a:Int) (m:Int)=zX F (l.length:Int) (pk l) (a:Int) ((sh m:Int),(dd m:Int)):=by
     unfold zS
     rw[qhw hm1 hm]
     simp only[qBi]
     rw[if_pos (by simp_all),qdW h1 (by omega),qgP (by omega) hl hlm ha (by omega),if_pos h3]
     grind
    simp_all
  ·have e:flOf l a m=none:=by grind [flOf]
   rw[e]
   unfold zS
   rw[qhw hm1 hm]
   simp only[qBi]
   rw[if_pos (by simp_all),qdW h1 (by omega),qgP (by omega) hl hlm ha (by omega),if_neg h3]
   simp
 grind [flOf,zS,qhw]
theorem qAR {n m:Nat}(hn:n<m)(p r:qD0):flOf (p++le n m++r) p.length m=some (n,p.length+(le n m).length):=by
 have hd:(p++le n m++r).drop p.length=le n m++r:=by simp
 have hll:=qvr n m
 have hadd:=qjD (m:=m) (by omega)
 have hL:(p++le n m++r).length=p.length+(le n m).length+r.length:=by grind
 unfold flOf flR
 rw[hd,hL,hll]
 by_cases h:n<dd m
 ·obtain ⟨h1,h2⟩:=qpd (m:=m) (by omega) (by omega)
  have e:bv ((le n m++r).take (sh m-1))=n:=by
   unfold le
   rw[if_pos h,qCJ (qdf _ _),qkY,qB8 (by omega)]
  grind
 ·have e:bv ((le n m++r).take (sh m))=n+dd m:=by
   unfold le
   rw[if_neg h,qCJ (qdf _ _),qkY,qB8 (by omega)]
  rw[if_neg h]
  by_cases h0:0<dd m
  ·obtain ⟨h1,h2⟩:=qpd (m:=m) (by omega) h0
   have e2:bv ((le n m++r).take (sh m-1))=(n+dd m)/2:=by
    unfold le
    rw[if_neg h]
    have hs:nb (n+dd m) (sh m)=nb ((n+dd m)/2) (sh m-1)++[((((n+dd m)%2:Nat)):Int)]:=by
     have:=qxZ (n+dd m) (sh m-1)
     simp_all
    have h6:2^sh m=2*2^(sh m-1):=by rw[← qDk];simp_all
    rw[hs,qBt,qCJ (qdf _ _),qkY,qB8 (by omega)]
   grind
  simp_all
def ok3 (l:qD0):Int×qD0×Int:=((l.length:Int),pk l,0)
theorem qAy {b:Nat}(h:a*b<18446744073709551616):imul .u64 (a:Int) (b:Int)=((a*b:Nat):Int):=by
 grind [imul,jB]
def en (p:Option (Nat×Nat)):Int×Int×Int:=match p with
 | none=>(0,0,7)
 | some p=>if 1099511627776<p.1 then (0,0,3) else ((p.1:Int),(p.2:Int),0)
theorem qtu {n q:Nat}:qcT F (n:Int) (q:Int) true=some (en (some (n,q))):=by
 grind [qcT,en]
def zh (n k:Nat):Nat:=lg n/k
def zf (n k:Nat):Nat:=2^(zh n k*k)
def zt (n k:Nat):Nat:=2^(zh n k*k+k)
def ze (n k:Nat):qD0:=un (zh n k)++le (n+1-zf n k) (zt n k-zf n k)
theorem qrK (n k:Nat):Bit (ze n k):=vi (qox _) (qzV _ _)
theorem qzo (n k:Nat):zf n k≤n+1:=by
 have h:zh n k*k≤lg n:=qDu _ _
 exact qB5 (qBW (by decide) h) qy8
theorem qzq {n:Nat}(hk:1≤k):n+1<zt n k:=by
 have h:lg n+1≤zh n k*k+k:=by
  have:=Nat.lt_mul_div_succ (lg n) hk
  unfold zh
  grind
 exact qDd qy9 (qBW (by decide) h)
theorem qte {n:Nat}(hn:n≤1099511627776)(hk2:k≤16):zh n k*k≤40∧zt n k≤72057594037927936:=by
 have h:zh n k*k≤lg n:=qDu _ _
 have h40:=qgn hn
 refine ⟨by omega,?_⟩
 have:zt n k≤2^56:=qBW (by decide) (by omega)
 omega
def Zk (k:Int):Prop:=1≤k∧k≤16
instance zkDec (k:Int):Decidable (Zk k):=inferInstanceAs (Decidable (_∧_))
theorem qAI {k:Int}(h:Zk k):∃ j:Nat,k=j∧1≤j∧j≤16:=by
 obtain ⟨j,rfl⟩:=qBm (show 0≤k by have:=h.1;omega)
 exact ⟨j,rfl,by have:=h.1;omega,by have:=h.2;omega⟩
theorem qyj {n:Nat}(hn:n≤1099511627776)(hk:1≤k)(hk2:k≤16):qdO F (n:Int) (k:Int)=some ((zh n k:Int),(zf n k:Int),(zt n k:Int)):=by
 unfold qdO
 obtain ⟨h40,h56⟩:=qte hn hk2
 have hlen:len (n+1)=lg n+1:=by rfl
 have hl40:=qgn hn
 have hzl:zh n k≤lg n:=qCx _ _
 have hc0:((k:Int) != 0)=true:=by grind
 rw[qow (by omega),qlj (by omega),hlen]
 simp only[qBi]
 rw[qdW (by omega) (by omega),Nat.add_sub_cancel]
 have e1:iquo .i64 (lg n:Int) (k:Int)=((zh n k:Nat):Int):=by
  grind [iquo,zh,yb]
 have e2:imul .i64 ((zh n k:Nat):Int) (k:Int)=((zh n k*k:Nat):Int):=by
  grind [imul,yb]
 rw[e1,e2,qb0 (by omega),hc0]
 have c1:decide ((0:Int)≤((zh n k*k:Nat):Int))=true:=decide_eq_true (qDA _)
 have c2:decide ((0:Int)≤((zh n k*k+k:Nat):Int))=true:=decide_eq_true (qDA _)
 rw[c1,c2]
 simp only[chk,if_true]
 rw[qjY (by omega),qjY (by omega)]
 rfl
def gz (n k:Int):Int×qD0×Int:=if Zk k∧n≤1099511627776 then ok3 (ze n.toNat k.toNat) else (0,[],3)
theorem qzR {n k:Int}(h:¬ (Zk k∧n≤1099511627776)):gz n k=(0,[],3):=by grind [gz]
theorem qse {n:Nat}(h:Zk k)(h2:n≤1099511627776):gz n k=ok3 (ze n k):=by grind [gz]
theorem qyW (hF:20000≤F){n k:Int}(hn:U64 n):qdN F n k=some (gz n k):=by
 unfold qdN
 by_cases h:Zk k∧n≤1099511627776
 ·obtain ⟨n,rfl⟩:=qBm hn.1
  obtain ⟨k,rfl,h1,h2⟩:=qAI h.1
  have hn2:n≤1099511627776:=by omega
  have hl40:=qgn hn2
  have hzl:zh n k≤lg n:=qCx _ _
  have a1:=qzo n k
  have a2:=qzq (n:=n) h1
  have a3:=(qte hn2 h2).2
  rw[if_neg (by grind),qyj hn2 h1 h2,qse h.1 hn2]
  simp only[qBi]
  rw[vu (by omega),qv4 hF (by omega),qow (by omega),qlT a1 (by omega),qlT (by omega) (by omega)]
  simp only[qBi]
  rw[qoY hF (qox _) (by rw[qiz];omega) (by omega) (by omega)]
  rfl
 grind [Zk,qzR]
def zq (k:Nat)(l:qD0)(i:Nat):Int×Int×Int:=match fz (l.drop i) with
 | none=>(0,0,7)
 | some h=>if 41≤h*k then (0,0,3) else en ((flOf l (i+h+1) (2^(h*k+k)-2^(h*k))).map fun p=>(2^(h*k)+p.1-1,p.2))
theorem qsA (hk:1≤k):2*2^a≤2^(a+k):=by
 rw[← qDk];exact qBW (by decide) (by omega)
theorem qvW (h:a≤56):2^a≤72057594037927936:=by
 have:2^a≤2^56:=qBW (by decide) h
 omega
theorem qpk {i:Nat}{l:qD0}(hF:20000≤F)(hl:Bit l)(hlm:l.length≤8192)(hi:i≤l.length)(h1:1≤k)(h2:k≤16):qbf F (l.length:Int) (pk l) (i:Int) (k:Int)=some (zq k l i):=by
 unfold qbf
 rw[qr8 hF hl hlm hi]
 unfold zq
 cases hz:fz (l.drop i) with
 | none=>rfl
 | some h =>
  have hq:=qy3 hz
  rw[qCc] at hq
  have hmul:h*k≤8192*16:=Nat.mul_le_mul (by omega) h2
  simp only[qBi,qCe,qBy,if_false]
  rw[vu (by omega),qAy (by omega),qeb (by omega)]
  by_cases h3:41≤h*k
  ·grind
  ·rw[if_neg (by grind),if_neg h3]
   have e2:imul .i64 (h:Int) (k:Int)=((h*k:Nat):Int):=by
    grind [imul,yb]
   have c1:decide ((0:Int)≤((h*k:Nat):Int))=true:=decide_eq_true (qDA _)
   have c2:decide ((0:Int)≤(k:Int))=true:=decide_eq_true (by omega)
   rw[e2,c1,c2]
   simp only[chk,if_true,lett]
   have p1:=qvW (a:=h*k) (by omega)
   have p2:=qvW (a:=h*k+k) (by omega)
   have p3:=qsA (a:=h*k) h1
   have p0:0<2^(h*k):=qCN (by decide)
   rw[qjY (by omega),qqT (by omega),← qDW,qB8 (by omega),qlT (by omega) (by omega)]
   have:=qnJ (a:=i+h+1) (m:=2^(h*k+k)-2^(h*k)) hF hl hlm (by omega) (by omega) (by omega)
   cases hf:flOf l (i+h+1) (2^(h*k+k)-2^(h*k)) with
   | none =>
    rw[hf] at this
    obtain ⟨x,y,e⟩:=this
    rw[e];rfl
   | some p =>
    rw[hf] at this
    simp only at this
    have hp:=qy2 hl (n:=p.1) (q:=p.2) (by omega) hf
    rw[this]
    simp only[qBi]
    rw[qrB (by omega),qkD (by omega) (by omega),qtu]
    rfl
theorem qy5 {n:Nat}(hn:n≤1099511627776):(ga n).length≤81:=by grind [qk9,qgn]
theorem qvs {n m:Nat}(hm:m≤9223372036854775808):(le n m).length≤63:=by
 grind [qvr,qsV]
theorem qAH {n:Nat}(hn:n≤1099511627776)(hk2:k≤16):(ze n k).length≤200:=by
 have hzl:zh n k≤lg n:=qCx _ _
 have hl40:=qgn (n:=n) (by omega)
 have a3:=(qte (n:=n) (by omega) hk2).2
 grind [qvs,ze,qiz]
def foldOf (x:Int):Int:=if x<0 then 2*(-(x+1))+1 else 2*x
theorem qoD {x:Int}(h1:-9223372036854775808≤x)(h2:x<0):IntKind.wrap .u64 x=x+18446744073709551616:=by
 rw[qjs];omega
theorem qxc (n:Nat)(h:n<18446744073709551616):ixor .u64 (n:Int) 18446744073709551615=18446744073709551615-(n:Int):=by
 unfold ixor
 have h1:(qBS (IntKind.bits .u64) (n:Int))=qBI 64 n:=by rfl
 have h2:(qBS (IntKind.bits .u64) (18446744073709551615:Int))=qCC 64:=by rfl
 rw[h1,h2]
 have h3:(qBI 64 n ^^^ qCC 64) = ~~~ (qBI 64 n):=BitVec.xor_allOnes
 have h4:(qBI 64 n ^^^ qCC 64).toNat=18446744073709551615-n:=by
  rw[h3,BitVec.toNat_not,qCI]
  omega
 show IntKind.wrap .u64 ((qBI 64 n ^^^ qCC 64).toNat:Int)=_
 rw[h4,jB (by omega) (by omega)]
 omega
theorem qrI (n:Nat)(h:n<18446744073709551616):ixor .u64 (n:Int) 0=(n:Int):=by
 grind [ixor,qBS,IntKind.bits,qBI,jB]
theorem qrG (n:Nat)(h:n<9223372036854775808):ixor .i64 (n:Int) (-1)=-(n:Int)-1:=by
 unfold ixor
 have h1:(qBS (IntKind.bits .i64) (n:Int))=qBI 64 n:=by rfl
 have h2:(qBS (IntKind.bits .i64) (-1:Int))=qCC 64:=by rfl
 rw[h1,h2]
 have h3:(qBI 64 n ^^^ qCC 64) = ~~~ (qBI 64 n):=BitVec.xor_allOnes
 have h4:(qBI 64 n ^^^ qCC 64).toNat=18446744073709551615-n:=by
  grind
 show IntKind.wrap .i64 ((qBI 64 n ^^^ qCC 64).toNat:Int)=_
 grind [IntKind.wrap,IntKind.bits,IntKind.signed]
theorem qrH (n:Nat)(h:n<9223372036854775808):ixor .i64 (n:Int) 0=(n:Int):=by
 unfold ixor
 have h1:(qBS (IntKind.bits .i64) (n:Int))=qBI 64 n:=by rfl
 have h2:(qBS (IntKind.bits .i64) (0:Int))=0#64:=by rfl
 rw[h1,h2]
 show IntKind.wrap .i64 ((qBI 64 n ^^^ 0#64).toNat:Int)=_
 rw[BitVec.xor_zero,qCI,qB8 (by omega),yb (by omega) (by omega)]
theorem qr6 (F:Nat){x:Int}(h1:-9223372036854775808≤x)(h2:x<9223372036854775808):qb6 F x=some (foldOf x):=by
 unfold qb6 lett foldOf
 have hs:ishr .i64 x 63=x/9223372036854775808:=by
  have:=qhB (k:=.i64) (a:=x) (m:=63) (by decide)
  simp_all
 have hl:∀ y:Int,ishl .u64 y 1=(y*2)%18446744073709551616:=fun y=>qlg (a:=y) (m:=1) (by decide)
 rw[hs,hl]
 by_cases hx:x<0
 ·rw[if_pos hx,show x/9223372036854775808=-1 from by omega]
  have e1:iconv .u64 x=x+18446744073709551616:=qoD h1 hx
  have e2:iconv .u64 (-1)=18446744073709551615:=by decide
  rw[e1,e2,show (x+18446744073709551616)*2%18446744073709551616=(((2*x+18446744073709551616).toNat:Nat):Int) from by omega,qxc _ (by omega)]
  grind
 ·rw[if_neg hx,show x/9223372036854775808=0 from by omega]
  have e1:iconv .u64 x=x:=jB (by omega) (by omega)
  have e2:iconv .u64 0=0:=by decide
  rw[e1,e2,show x*2%18446744073709551616=((2*x).toNat:Int) from by omega,qrI _ (by omega)]
  grind
def kR (n:Int):Int:=if n%2=0 then n/2 else -(n/2)-1
theorem qm6 (F:Nat){n:Int}(h1:0≤n)(h2:n<18446744073709551616):qaV F n=some (kR n):=by
 unfold qaV lett kR
 have hs:ishr .u64 n 1=n/2:=by
  have:=qhB (k:=.u64) (a:=n) (m:=1) (by decide)
  simp_all
 have ha:iand .u64 n 1=n%2:=by
  have:=qhA (k:=.u64) (a:=n) (m:=1) h1 (by grind [IntKind.bits]) (by decide) rfl
  simp_all
 have e1:iconv .i64 (n/2)=n/2:=yb (by omega) (by omega)
 have e2:iconv .i64 (n%2)=n%2:=yb (by omega) (by omega)
 rw[hs,ha,e1,e2]
 by_cases h:n%2=0
 ·rw[if_pos h,h,show isub .i64 0 0=0 from by decide,show n/2=((n/2).toNat:Int) from by omega,qrH _ (by omega)]
 ·rw[if_neg h,show n%2=1 from by omega,show isub .i64 0 1=-1 from by decide,show n/2=((n/2).toNat:Int) from by omega,qrG _ (by omega)]
theorem qkg (x:Int):kR (foldOf x)=x:=by
 grind [kR,foldOf]
theorem qnZ {x:Int}:qd7 F x=some (decide (0≤x∧x≤1048576)):=by
 unfold qd7
 simp
def gk:Int→qD0→Int
 | _,[]=>0
 | last,n::l=>if 0≤n∧n≤1048576 then (if n≤last then 4 else gk n l) else 3
def gkc (l:qD0):Int:=if 300<l.length then 2 else gk (-1) l
theorem qpm {F:Nat}{l:qD0}(hm:l.length≤300):∀ (k i:Nat) (last:Int),l.length<k+i→i≤l.length →
  qer F l k (last,(i:Int))=some (gk last (l.drop i))
 | 0,_,_,_,_=>by omega
 | k+1,i,last,h,hi=>by
  show qeq F l (qer F l k) last (i:Int)=_
  unfold qeq
  by_cases hlt:i<l.length
  ·rw[if_pos (by simp_all),qo,qBk hlt,qBq hlt,gk]
   simp only[qBi]
   rw[qnZ]
   simp only[qBi]
   by_cases h1:0≤l[i]∧l[i]≤1048576
   ·rw[decide_eq_true h1,if_pos h1,if_neg (by simp)]
    by_cases h2:l[i]≤last
    ·simp_all
    ·rw[if_neg h2,if_neg (by grind),qu (by omega)]
     exact qpm hm k (i+1) _ (by omega) (by omega)
   grind
  ·rw[if_neg (by simp_all),qBu (by omega)]
   rfl
theorem qgk (hF:20000≤F){l:qD0}:jr F l=some (gkc l):=by
 unfold jr gkc
 by_cases h:300<l.length
 ·grind
 ·rw[if_neg (by grind),if_neg h]
  exact qpm (by omega) F 0 (-1) (by omega) (by omega)
def Ris:Int→qD0→Prop
 | _,[]=>True
 | last,n::l=>(0≤n∧n≤1048576)∧last<n∧Ris n l
theorem qvf:∀ {last:Int} {l:qD0},gk last l=0↔Ris last l
 | _,[]=>by simp[gk,Ris]
 | last,n::l=>by
  unfold gk Ris
  by_cases h1:0≤n∧n≤1048576
  ·rw[if_pos h1]
   by_cases h2:n≤last
   ·omega
   ·rw[if_neg h2,qvf];simp_all
  omega
theorem vt {l:qD0}:gkc l=0↔(l.length≤300∧Ris (-1) l):=by
 grind [gkc,qvf]
def Nd (x:Int):Prop:=0≤x∧x≤1048576
instance ndDec (x:Int):Decidable (Nd x):=inferInstanceAs (Decidable (_∧_))
def gp:Bool→Int→qD0→qD0
 | _,_,[]=>[]
 | b,a,n::l=>(if b then n-a-1 else foldOf (n-a))::gp true n l
theorem qqM:∀ (b:Bool) (a:Int) (l:qD0),(gp b a l).length=l.length
 | _,_,[]=>rfl
 | b,a,n::l=>by rw[gp,qBQ,qBQ,qqM]
theorem qzP {a n:Int}{b:Bool}(ha:Nd a)(hn:Nd n)(hb:b=true→a<n):qbe F a b n=some (if b then n-a-1 else foldOf (n-a),n,true):=by
 unfold qbe
 have h1:=ha.1;have h2:=ha.2;have h3:=hn.1;have h4:=hn.2
 cases b with
 | true =>
  have:=hb rfl
  rw[if_pos rfl,if_pos rfl,zN (a:=n) (b:=a) (by omega) (by omega),zN (a:=n-a) (by omega) (by omega)]
  have e:iconv .u64 (n-a-1)=n-a-1:=jB (by omega) (by omega)
  rw[e];rfl
 | false =>
  rw[if_neg (by simp),if_neg (by simp),zN (by omega) (by omega),qr6 F (by omega) (by omega)]
  rfl
theorem qvi {F:Nat}{l:qD0}(hm:l.length≤300):∀ (k i:Nat) (a:Int) (b:Bool) (o:qD0),l.length<k+i→i≤l.length→Nd a→(b=true→Ris a (l.drop i))→(b=false→∃ q,Ris q (l.drop i))→o.length+(l.length-i)≤1000 →
  qfX F l k (o,(i:Int),a,b)=some (o++gp b a (l.drop i))
 | 0,_,_,_,_,_,_,_,_,_,_=>by omega
 | k+1,i,a,b,o,h,hi,ha,hb,hb2,ho=>by
  show qfV F l (qfX F l k) o (i:Int) a b=_
  unfold qfV
  by_cases hlt:i<l.length
  ·rw[qBq hlt] at hb hb2 ⊢
   have hx:Nd l[i]∧Ris l[i] (l.drop (i+1)):=by
    cases b with
    | true=>have:=hb rfl;exact ⟨this.1,this.2.2⟩
    | false=>obtain ⟨q,hq⟩:=hb2 rfl;exact ⟨hq.1,hq.2.2⟩
   rw[if_pos (by simp_all),qo,qBk hlt]
   simp only[qBi]
   rw[qzP ha hx.1 (fun h=>(hb h).2.1)]
   simp only[qBi]
   rw[kG (by grind),qu (by omega)]
   simp only[qBi]
   rw[qvi hm k (i+1) _ _ _ (by omega) (by omega) hx.1 (fun _=>hx.2) (fun h=>by cases h) (by grind)]
   rw[gp]
   simp
  grind [qfW,gp]
theorem qxO (hF:20000≤F){l:qD0}{a:Int}(hm:l.length≤300)(ha:Nd a)(hr:Ris q l):qgA F l a=some (gp false a l):=by
 unfold qgA
 have:=qvi (F:=F) hm F 0 a false [] (by omega) (by omega) ha (fun h=>by cases h) (fun _=>⟨q,by simp_all⟩) (by grind)
 simp_all
def st (b:Bool)(a g:Int):Option Int:=if 2097152<g then none else if Nd (if b then a+g+1 else a+kR g) then some (if b then a+g+1 else a+kR g) else none
theorem qA8 {b:Bool}{a g n:Int}(h:st b a g=some n):Nd n∧g≤2097152∧n=(if b then a+g+1 else a+kR g):=by
 grind [st]
theorem qyp {a g:Int}{b:Bool}(ha:Nd a)(hg:U64 g):match st b a g with
  | none=>∃ x y,kW F a b g=some (false,x,y)
  | some n=>kW F a b g=some (true,n,true):=by
 have h1:=ha.1;have h2:=ha.2;have h3:=hg.1;have h4:=hg.2
 by_cases h:2097152<g
 ·have e:st b a g=none:=by grind [st]
  rw[e]
  unfold kW
  simp_all
 ·have hu:-1048577≤kR g∧kR g≤1048577:=by grind [kR]
  have hM:kW F a b g=some (decide (Nd (if b then a+g+1 else a+kR g)),(if b then a+g+1 else a+kR g),true):=by
   unfold kW
   rw[if_neg (by grind)]
   cases b with
   | true =>
    have e:iconv .i64 g=g:=yb (by omega) (by omega)
    rw[if_pos rfl,e,zb (a:=g) (by omega) (by omega),zb (by omega) (by omega)]
    unfold yC
    rw[qnZ,show a+(g+1)=a+g+1 from by omega]
    rfl
   | false =>
    rw[if_neg (by simp),qm6 F h3 h4]
    simp only[qBi]
    rw[zb (by omega) (by omega)]
    unfold yC
    rw[qnZ]
    rfl
  rw[hM]
  unfold st
  grind
def bk:Bool→Int→qD0→Option (qD0)
 | _,_,[]=>some []
 | b,a,g::l=>(st b a g).bind fun n=>(bk true n l).map (n::·)
def zes (k:Nat)(g:qD0):qD0:=g.flatMap fun x=>ze x.toNat k
theorem qjt (k:Nat)(x:Int)(g:qD0):zes k (x::g)=ze x.toNat k++zes k g:=rfl
theorem qtc (k:Nat)(g:qD0):Bit (zes k g):=by
 induction g with
 | nil=>intro x hx;simp[zes] at hx
 | cons x g ih=>grind [qjt,vi,qrK]
def L40 (g:qD0):Prop:=∀ x∈g,0≤x∧x≤1099511627776
theorem qzc {F k:Nat}(hF:20000≤F)(h1:1≤k)(h2:k≤16){g:qD0}(hg:L40 g)(hgm:g.length≤10000):∀ (j i:Nat) (l:qD0),g.length<j+i→i≤g.length→Bit l→l.length≤8192 →
  qfU F g (k:Int) j ((i:Int),(l.length:Int),pk l)=some (if (l++zes k (g.drop i)).length≤8192 then (((l++zes k (g.drop i)).length:Int),pk (l++zes k (g.drop i)),true) else (0,[],false))
 | 0,_,_,_,_,_,_=>by omega
 | j+1,i,l,h,hi,hl,hlm=>by
  show qfT F g (k:Int) (qfU F g (k:Int) j) (i:Int) (l.length:Int) (pk l)=_
  unfold qfT
  by_cases hlt:i<g.length
  ·have hx:=hg _ (qBE hlt)
   obtain ⟨x,hxe⟩:=qBm hx.1
   rw[if_pos (by simp_all),qo,qBk hlt,qBq hlt,qjt,hxe,qBo]
   simp only[qBi]
   have hk:Zk (k:Int):=⟨by omega,by omega⟩
   rw[qyW hF ⟨by omega,by omega⟩,qse hk (by omega)]
   simp only[qBi,ok3]
   have hz:=qAH (n:=x) (k:=k) (by omega) h2
   rw[qb0 (by omega)]
   by_cases h3:l.length+(ze x k).length≤8192
   ·rw[if_neg (by grind),qrS hF hl (qrK _ _) hlm (by omega)]
    simp only[qBi]
    rw[qu (by omega),qzc hF h1 h2 hg hgm j (i+1) (l++ze x k) (by omega) (by omega) (vi hl (qrK _ _)) (by simp_all)]
    simp
   grind
  ·rw[if_neg (by simp_all),qBu (by omega)]
   have:zes k []=[]:=rfl
   rw[this,qBV,if_pos hlm]
   rfl
theorem qxN (hF:20000≤F)(h1:1≤k)(h2:k≤16){g l:qD0}(hg:L40 g)(hgm:g.length≤10000)(hl:Bit l)(hlm:l.length≤8192) :
  qe9 F (l.length:Int) (pk l) g (k:Int)=some (if (l++zes k g).length≤8192 then (((l++zes k g).length:Int),pk (l++zes k g),true) else (0,[],false)):=by
 unfold qe9
 have:=qzc hF h1 h2 hg hgm F 0 l (by omega) (by omega) hl hlm
 simp_all
theorem qvh:∀ {b:Bool} {a q:Int} {l:qD0},Nd a→Ris q l→(b=true→Ris a l)→∀ x∈gp b a l,0≤x∧x≤2097153
 | _,_,_,[],_,_,_=>by grind [gp]
 | b,a,q,n::l,ha,hr,hb=>by
  intro x hx
  rw[gp] at hx
  have h1:=ha.1;have h2:=ha.2;have h3:=hr.1.1;have h4:=hr.1.2
  rcases qBp.1 hx with rfl | hx
  ·cases b with
   | true=>have:=(hb rfl).2.1;grind
   | false=>simp only[qBy,if_false];grind [foldOf]
  ·exact qvh hr.1 hr.2.2 (fun _=>hr.2.2) x hx
def gfr (l:qD0)(k:Nat):Nat→Bool→Int→Nat→Int ⊕ (qD0×Nat)
 | 0,_,_,p=>.inr ([],p)
 | m+1,b,a,p=>if (zq k l p).2.2≠0 then .inl (zq k l p).2.2 else match st b a (zq k l p).1 with
  | none=>.inl 3
  | some n=>match gfr l k m true n (zq k l p).2.1.toNat with
   | .inl e=>.inl e
   | .inr r=>.inr (n::r.1,r.2)
def gfI (o:qD0)(r:Int ⊕ (qD0×Nat)):qD0×Int×Int:=match r with | .inl e=>([],0,e) | .inr r=>(o++r.1,(r.2:Int),0)
theorem qzp {l:qD0}(hl:Bit l){p:Nat}(h1:1≤k):(zq k l p).2.2≠0∨∃ g q:Nat,zq k l p=((g:Int),(q:Int),0)∧g≤1099511627776∧q≤l.length:=by
 unfold zq
 cases hz:fz (l.drop p) with
 | none=>simp
 | some h =>
  simp only
  by_cases h3:41≤h*k
  ·simp_all
  ·rw[if_neg h3]
   have p3:=qsA (a:=h*k) h1
   have p0:0<2^(h*k):=qCN (by decide)
   cases hf:flOf l (p+h+1) (2^(h*k+k)-2^(h*k)) with
   | none=>left;simp[en]
   | some r =>
    have:=qy2 hl (n:=r.1) (q:=r.2) (by omega) hf
    simp only[qCj,en]
    grind
theorem qsc {F k many:Nat}{l:qD0}(hF:20000≤F)(hl:Bit l)(hlm:l.length≤8192)(h1:1≤k)(h2:k≤16)(hm:many≤300):∀ (j i p:Nat) (a:Int) (b:Bool) (o:qD0),many<j+i→i≤many→p≤l.length→Nd a→o.length+(many-i)≤1000 →
  qe8 F (l.length:Int) (pk l) (k:Int) (many:Int) j ((p:Int),o,(i:Int),a,b)=some (gfI o (gfr l k (many-i) b a p))
 | 0,_,_,_,_,_,_,_,_,_,_=>by omega
 | j+1,i,p,a,b,o,h,hi,hp,ha,ho=>by
  show qe6 F (l.length:Int) (pk l) (k:Int) (many:Int) (qe8 F (l.length:Int) (pk l) (k:Int) (many:Int) j) (p:Int) o (i:Int) a b=_
  unfold qe6
  by_cases hlt:i<many
  ·rw[if_pos (by simp_all),qpk hF hl hlm hp h1 h2,show many-i=(many-(i+1))+1 from by omega]
   simp only[qBi]
   unfold gfr
   rcases qzp hl (k:=k) (p:=p) h1 with hz | ⟨g,q,hz,hg,hq⟩
   ·rw[if_pos hz,if_pos (by grind)]
    rfl
   ·rw[hz]
    simp only[ne_eq,not_true_eq_false,if_false,bne_self_eq_false,qBy,qBo]
    have hs:=qyp (F:=F) (b:=b) ha (g:=(g:Int)) ⟨by omega,by omega⟩
    cases hst:st b a (g:Int) with
    | none =>
     rw[hst] at hs
     obtain ⟨x,y,e⟩:=hs
     rw[e];rfl
    | some n =>
     rw[hst] at hs
     simp only at hs
     rw[hs]
     simp only[qBi,qCe,qBy,if_false]
     rw[kG (by grind),qu (by omega)]
     simp only[qBi]
     rw[qsc hF hl hlm h1 h2 hm j (i+1) q n true _ (by omega) (by omega) hq (qA8 hst).1 (by grind)]
     grind [gfI]
  ·rw[if_neg (by simp_all),show many-i=0 from by omega]
   simp[qe7,gfr,gfI]
theorem qve {many p:Nat}{l:qD0}{a:Int}(hF:20000≤F)(hl:Bit l)(hlm:l.length≤8192)(h1:1≤k)(h2:k≤16)(hm:many≤300)(hp:p≤l.length)(ha:Nd a) :
  qfv F (l.length:Int) (pk l) (p:Int) a (k:Int) (many:Int)=some (gfI [] (gfr l k many false a p)):=by
 unfold qfv
 exact qsc hF hl hlm h1 h2 hm F 0 p a false [] (by omega) (by omega) hp ha (by grind)
theorem qx0 {a:Int}:((decide (a<0)) || (decide (1048576<a)))=!decide (Nd a):=by
 grind [Nd]
theorem qsa {l:qD0}{k:Nat}:∀ {m:Nat} {b:Bool} {a:Int} {p:Nat} {r:qD0×Nat},gfr l k m b a p=.inr r→r.1.length=m
 | 0,_,_,_,r,h=>by grind [gfr]
 | m+1,b,a,p,r,h=>by
  unfold gfr at h
  split at h
  ·grind
  ·split at h
   ·grind
   ·split at h
    ·grind
    ·rename_i r' hr
     simp only[Sum.inr.injEq] at h
     rw[← h]
     simp[qsa hr]
theorem qAp {b:Bool}{a n:Int}(ha:Nd a)(hn:Nd n)(hb:b=true→a<n):st b a (if b then n-a-1 else foldOf (n-a))=some n:=by
 have h1:=ha.1;have h2:=ha.2;have h3:=hn.1;have h4:=hn.2
 unfold st
 cases b with
 | true =>
  grind
 | false =>
  simp only[qBy,if_false]
  grind [qkg,foldOf]
theorem qyY:∀ {b:Bool} {a q:Int} {l:qD0},Nd a→Ris q l→(b=true→Ris a l)→bk b a (gp b a l)=some l
 | _,_,_,[],_,_,_=>rfl
 | b,a,q,n::l,ha,hr,hb=>by
  rw[gp,bk,qAp ha hr.1 (fun h=>(hb h).2.1)]
  simp only[qBi]
  rw[qyY hr.1 hr.2.2 (fun _=>hr.2.2)]
  rfl
theorem qjV:∀ {q:Int} {l:qD0},Ris q l→∀ x∈l,Nd x
 | _,[],_=>by simp
 | _,n::l,h=>by
  intro x hx
  rcases qBp.1 hx with rfl | hx
  ·exact h.1
  ·exact qjV h.2.2 x hx
theorem qBd {n:Nat}(hk:1≤k)(hk2:k≤16)(hn:n≤1099511627776)(p r:qD0):zq k (p++ze n k++r) p.length=((n:Int),((p.length+(ze n k).length:Nat):Int),0):=by
 unfold zq
 have a1:=qzo n k
 have a2:=qzq (n:=n) hk
 have h40:=(qte hn hk2).1
 have hd:(p++ze n k++r).drop p.length=un (zh n k)++(le (n+1-zf n k) (zt n k-zf n k)++r):=by
  grind [ze]
 rw[hd,qy4]
 simp only
 rw[if_neg (by omega)]
 have:=qAR (n:=n+1-zf n k) (m:=zt n k-zf n k) (by omega) (p++un (zh n k)) r
 rw[qBr,qiz] at this
 have e:p++ze n k++r=p++un (zh n k)++le (n+1-zf n k) (zt n k-zf n k)++r:=by simp_all
 have e2:2^(zh n k*k+k)-2^(zh n k*k)=zt n k-zf n k:=rfl
 rw[e,e2,qDj,this]
 have hdm:2^(zh n k*k)+(n+1-zf n k)-1=n:=by
  have:2^(zh n k*k)=zf n k:=rfl
  omega
 grind [en,qBr,qiz]
theorem qsb {k:Nat}(hk:1≤k)(hk2:k≤16):∀ {g rs:qD0} {b:Bool} {a:Int} (p r:qD0),L40 g→bk b a g=some rs→gfr (p++zes k g++r) k g.length b a p.length=.inr (rs,p.length+(zes k g).length)
 | [],rs,b,a,p,r,_,h=>by grind [bk,gfr,zes]
 | x::g,rs,b,a,p,r,hg,h=>by
  have hx:=hg x qBv
  obtain ⟨n,hn⟩:=qBm hx.1
  unfold bk at h
  cases hs:st b a x with
  | none=>simp_all
  | some y =>
   rw[hs] at h
   simp only[qBi] at h
   cases hb:bk true y g with
   | none=>simp_all
   | some rs' =>
    rw[hb] at h
    simp only[qCj,qBs] at h
    have hz:=qBd hk hk2 (n:=n) (by omega) p (zes k g++r)
    have e:p++zes k (x::g)++r=p++ze n k++(zes k g++r):=by grind [qjt]
    have ih:=qsb hk hk2 (p++ze n k) r (fun y hy=>hg y (qBz _ hy)) hb
    have e2:p++ze n k++zes k g++r=p++ze n k++(zes k g++r):=by simp
    rw[e2,qBr] at ih
    rw[e,qBQ,gfr,hz]
    simp only[ne_eq,not_true_eq_false,if_false,qBo]
    rw[← hn,hs]
    simp only
    rw[ih,← h,qjt,hn,qBo,qBr,qDj]
theorem qjh (l:qD0):(srt l).Perm l:=qm2 l
theorem qod (l:qD0):(srt l).Pairwise (·≤·):=qsY l
theorem qoc {l m:qD0}(hp:l.Perm m)(hm:m.Pairwise (·≤·)):srt l=m :=
 qCP (le:=fun x y:Int=>x≤y) (fun a b _ _ h1 h2=>by omega) (qod l) hm ((qjh l).trans hp)
theorem qsC {l:qD0}(h:l.Pairwise (·<·)):l.Pairwise (·≤·):=h.imp (fun h=>by omega)
theorem qpG {l:qD0}(h:l.Pairwise (·<·)):l.Nodup:=h.imp (fun h=>by omega)
theorem qpH {l:qD0}(h:l.Pairwise (·≤·))(hn:l.Nodup):l.Pairwise (·<·):=by
 have:=List.Pairwise.and h hn
 grind
theorem qhk (xs:qD0):(Go.Lib.compact xs).length≤xs.length:=by
 grind [Go.Lib.compact,Go.Lib.compactUpTo]
theorem qjL {j:Nat}(h0:0<j)(hj:j<xs.length):Go.Lib.keeps xs.toArray j=decide (xs[j]≠xs[j-1]):=by
 grind [Go.Lib.keeps]
theorem qk3 (h:xs.Pairwise (·<·)):Go.Lib.compact xs=xs:=by
 grind [Go.Lib.compact_all,Go.Lib.keeps,qBT]
theorem qnG (h:xs.Pairwise (·≤·))(he:(Go.Lib.compact xs).length=xs.length):xs.Pairwise (·<·):=by
 unfold Go.Lib.compact Go.Lib.compactUpTo at he
 rw[qBJ] at he
 have he':((qBx xs.length).filter (Go.Lib.keeps xs.toArray)).length=(qBx xs.length).length:=by simp_all
 have hk:=List.length_filter_eq_length_iff.1 he'
 rw[qBT]
 intro i j hi hj hij
 have h1:=hk j (by grind)
 rw[qjL (by omega) hj] at h1
 have h2:xs[j]≠xs[j-1]:=by grind
 have h3:=qBT.1 h (j-1) j (by omega) hj (by omega)
 have h4:xs[i]≤xs[j-1]:=by
  by_cases e:i=j-1
  ·simp_all
  ·exact qBT.1 h i (j-1) hi (by omega) (by omega)
 omega
theorem qb1:∀ {q:Int} {l:qD0},Ris q l→l.Pairwise (·<·)∧∀ z∈l,q<z
 | _,[],_=>by simp
 | q,x::l,h=>by
  obtain ⟨h1,h2⟩:=qb1 h.2.2
  have h3:=h.2.1
  refine ⟨qB0.2 ⟨h2,h1⟩,fun z hz=>?_⟩
  grind
theorem qn6:∀ {q:Int} {l:qD0},l.Pairwise (·<·)→(∀ z∈l,q<z)→(∀ z∈l,Nd z)→Ris q l
 | _,[],_,_,_=>trivial
 | q,x::l,h,hq,hn=>⟨hn x (by simp),hq x (by simp),qn6 (qB0.1 h).2 (qB0.1 h).1 fun z hz=>hn z (by grind)⟩
def cmn (l r:qD0):Bool:=l.any fun x=>r.contains x
theorem qrY {l r:qD0}:cmn l r=false↔∀ x∈l,x∉r:=by simp[cmn]
def mrg (l r:qD0):qD0×Int:=if cmn l r then ([],6) else if 300<l.length+r.length then ([],2) else (srt (l++r),0)
theorem qsd {n:Nat}(h:n≤1000000):vR F ([]:qD0) 0 (n:Int)=some []:=by
 unfold vR lett
 rw[if_neg (by simp)]
 have e1:isub .i64 ((0:Nat):Int) (([]:qD0).length:Int)=0:=by decide
 rw[e1,zN (by omega) (by omega),Int.sub_zero]
 by_cases h0:n=0
 ·subst h0;rfl
 ·simp only
  rw[if_pos (by grind)]
  have e2:sub ([]:qD0) 0 ((0:Nat):Int)=some []:=by decide
  have e3:appz 8796093022208 ([]:qD0) 0 (n:Int)=some (qBj n 0):=by
   grind [appz]
  rw[e2]
  simp only[qBi]
  rw[e3]
  rfl
theorem qtq (hF:20000≤F){a:qD0}(h:a.length+b.length≤1000000):zK F [a,b]=some (a++b):=by
 obtain ⟨k,rfl⟩:∃ k,F=k+3:=⟨F-3,by omega⟩
 have i0:idx [a,b] (0:Int)=some a:=rfl
 have i1:idx [a,b] (1:Int)=some b:=rfl
 have e0:iadd .i64 0 (a.length:Int)=(a.length:Int):=by rw[zb (by omega) (by omega)];omega
 have e1:iadd .i64 (a.length:Int) (b.length:Int)=((a.length+b.length:Nat):Int):=qb0 (by omega)
 have o1:iadd .i64 0 1=1:=by decide
 have o2:iadd .i64 1 1=2:=by decide
 have hs:kx (k+3) [a,b] ((a.length+b.length:Nat):Int)=some (a++b):=by
  unfold kx
  rw[qsd h]
  simp only[qBi]
  show qN (k+3) [a,b] (zL (k+3) [a,b] (k+2)) [] 0=_
  unfold qN
  rw[if_pos (by simp),i0]
  simp only[qBi]
  rw[kG (by simp;omega),o1]
  simp only[qBi,qBF]
  show qN (k+3) [a,b] (zL (k+3) [a,b] (k+1)) a 1=_
  unfold qN
  rw[if_pos (by simp),i1]
  simp only[qBi]
  rw[kG (by omega),o2]
  simp only[qBi]
  show qN (k+3) [a,b] (zL (k+3) [a,b] k) (a++b) 2=_
  unfold qN
  rw[if_neg (by simp)]
  rfl
 unfold zK
 show qO (k+3) [a,b] (zM (k+3) [a,b] (k+2)) 0 0=_
 unfold qO
 rw[if_pos (by simp),i0]
 simp only[qBi]
 rw[e0,if_neg (by simp),o1]
 show qO (k+3) [a,b] (zM (k+3) [a,b] (k+1)) (a.length:Int) 1=_
 unfold qO
 rw[if_pos (by simp),i1]
 simp only[qBi]
 rw[e1,if_neg (by simp;omega),o2]
 show qO (k+3) [a,b] (zM (k+3) [a,b] k) ((a.length+b.length:Nat):Int) 2=_
 unfold qO
 rw[if_neg (by simp)]
 exact hs
theorem qsX {l r:qD0}(hl:l.Pairwise (·<·))(hr:r.Pairwise (·<·)):(srt (l++r)).Pairwise (·<·)↔cmn l r=false:=by
 rw[qrY]
 constructor
 ·intro h x hx hx'
  have hn:(l++r).Nodup:=(qjh _).nodup_iff.1 (qpG h)
  grind
 grind [qpH,qod,qjh,qpG]
theorem qtC (hF:20000≤F){l r:qD0}(hl:l.Pairwise (·<·))(hr:r.Pairwise (·<·))(hm:l.length+r.length≤1000000) :
  ((zK F ([l,r]:List (qD0))).bind fun x16=>((q5 F x16).bind fun x19=>(chk (decide (x19.length=x16.length)) (((kE F x19).bind fun x29=>((zy F x29).bind fun x32=>(if (decide ((x32.length:Int)<(x19.length:Int))) then some (([]:qD0),(6:Int)) else (if (decide (300<(x19.length:Int))) then some (([]:qD0),2) else some (x19,0)))))))))=some (mrg l r):=by
 rw[qtq hF hm]
 simp only[qBi]
 have hsl:(srt (l++r)).length=l.length+r.length:=by rw[qhI,qBr]
 unfold q5
 rw[if_pos (by grind)]
 simp only[qBi]
 unfold chk
 rw[if_pos (by simp_all)]
 unfold kE
 rw[kG (by grind)]
 simp only[qBi,qBF]
 unfold zy
 rw[if_pos (qhk _)]
 simp only[qBi]
 unfold mrg
 have hc:=qhk (srt (l++r))
 cases h:cmn l r
 ·grind [qsX,qk3]
 ·have hne:(Go.Lib.compact (srt (l++r))).length≠(srt (l++r)).length:=by
   grind [qsX,qnG,qod]
  grind
def cr:Int→qD0→Nat
 | _,[]=>0
 | v,y::t=>if y=v then 1+cr (v+1) t else 0
def rs:qD0→List (Int×Int)
 | []=>[]
 | x::t=>match rs t with
  | (y,n)::r=>if y=x+1 then (x,n+1)::r else (x,1)::(y,n)::r
  | []=>[(x,1)]
def rng:Int→Nat→qD0
 | _,0=>[]
 | a,n+1=>a::rng (a+1) n
def flat (R:List (Int×Int)):qD0:=R.flatMap fun r=>rng r.1 r.2.toNat
theorem qxy (v y:Int)(t:qD0):cr v (y::t)=if y=v then 1+cr (v+1) t else 0:=rfl
theorem qye (x:Int)(t:qD0):rs (x::t)=match rs t with
  | (y,n)::r=>if y=x+1 then (x,n+1)::r else (x,1)::(y,n)::r
  | []=>[(x,1)]:=rfl
theorem quP:∀ (v:Int) (t:qD0),cr v t≤t.length
 | _,[]=>qBw _
 | v,y::t=>by
  unfold cr
  have:=quP (v+1) t
  grind
theorem quO:∀ (v:Int) (t:qD0) {j:Nat},j<cr v t→t[j]?=some (v+j)
 | _,[],_,h=>by simp[cr] at h
 | v,y::t,j,h=>by
  unfold cr at h
  split at h
  ·rename_i he
   cases j with
   | zero=>grind
   | succ j =>
    rw[qCS,quO (v+1) t (by omega)]
    grind
  omega
theorem quN:∀ (v:Int) (t:qD0) {y:Int},t[cr v t]?=some y→y≠v+cr v t
 | _,[],_,h=>by simp_all
 | v,x::t,y,h=>by
  unfold cr at h ⊢
  split at h
  ·rename_i he
   rw[if_pos he]
   rw[qCZ 1,qCS] at h
   have:=quN (v+1) t h
   omega
  simp_all
theorem qsS:∀ (x:Int) (t:qD0),rs (x::t)=(x,1+(cr (x+1) t:Int))::rs (t.drop (cr (x+1) t))
 | x,[]=>rfl
 | x,y::t=>by
  have ih:=qsS y t
  rw[qye,ih,qxy]
  grind
theorem qeM:∀ (a:Int) (n:Nat),(rng a n).length=n
 | _,0=>rfl
 | a,n+1=>by rw[rng,qBQ,qeM]
theorem qlv:∀ (a:Int) (n:Nat),rng a (n+1)=rng a n++[a+n]
 | a,0=>by simp[rng]
 | a,n+1=>by
  rw[rng,qlv (a+1) n,rng,qCb,show a+1+(n:Int)=a+((n+1:Nat):Int) from by omega]
theorem qdZ:∀ {a z:Int} {n:Nat},z∈rng a n↔a≤z∧z<a+n
 | a,z,0=>by simp[rng]
 | a,z,n+1=>by
  rw[rng,qBp,qdZ]
  omega
theorem k7 (r:Int×Int)(R:List (Int×Int)):flat (r::R)=rng r.1 r.2.toNat++flat R:=rfl
theorem qpj (A B:List (Int×Int)):flat (A++B)=flat A++flat B:=by grind [flat]
theorem qu5 {z:Int}:z∈flat R↔∃ r∈R,r.1≤z∧z<r.1+r.2.toNat:=by
 grind [flat,qdZ]
def Sep:Int→List (Int×Int)→Prop
 | _,[]=>True
 | e,r::R=>e<r.1∧1≤r.2∧Sep (r.1+r.2) R
theorem qwo {e e':Int}(h:Sep e R)(he:e'≤e):Sep e' R:=by
 cases R with
 | nil=>trivial
 | cons r R=>exact ⟨by have:=h.1;omega,h.2⟩
theorem qeN:∀ (l:qD0),flat (rs l)=l
 | []=>rfl
 | x::t=>by
  have ih:=qeN t
  unfold rs
  cases h:rs t with
  | nil =>
   grind [k7,rng]
  | cons p r =>
   obtain ⟨y,n⟩:=p
   rw[h] at ih
   simp only
   by_cases he:y=x+1
   ·rw[if_pos he]
    subst he
    rw[k7] at ih ⊢
    simp only at ih ⊢
    by_cases hn:0≤n
    ·rw[show (n+1).toNat=n.toNat+1 from by omega,rng,qCb,ih]
    ·exfalso
     have:∀ (l:qD0),∀ r∈rs l,1≤r.2:=by
      intro l
      induction l with
      | nil=>grind [rs]
      | cons x t ih =>
       intro r hr
       unfold rs at hr
       cases h:rs t with
       | nil=>simp_all
       | cons p q =>
        grind
     have:=this t (x+1,n) (by simp_all)
     omega
   grind [k7,rng]
theorem qlz:∀ {q:Int} {l:qD0},l.Pairwise (·<·)→(∀ z∈l,q<z)→Sep q (rs l)
 | _,[],_,_=>trivial
 | q,x::t,h,hq=>by
  have h':=qB0.1 h
  have ih:Sep x (rs t):=qlz h'.2 h'.1
  have hx:=hq x (by simp)
  unfold rs
  cases hr:rs t with
  | nil=>exact ⟨hx,by simp,trivial⟩
  | cons p r =>
   obtain ⟨y,n⟩:=p
   rw[hr] at ih
   obtain ⟨i1,i2,i3⟩:=ih
   simp only at i1 i2 i3 ⊢
   by_cases he:y=x+1
   ·rw[if_pos he]
    subst he
    refine ⟨hx,by omega,?_⟩
    grind
   ·rw[if_neg he]
    exact ⟨hx,by simp,by omega,i2,i3⟩
theorem qrc:∀ {e:Int} {R:List (Int×Int)},Sep e R→∀ z∈flat R,e<z
 | _,[],_=>by simp[flat]
 | e,r::R,h=>by
  intro z hz
  rw[k7] at hz
  rcases qBn.1 hz with hz | hz
  ·have:=qdZ.1 hz;have:=h.1;omega
  ·have:=qrc h.2.2 z hz;have:=h.1;have:=h.2.1;omega
theorem qwd:∀ (a:Int) (n:Nat),(rng a n).Pairwise (·<·)
 | _,0=>qDC
 | a,n+1=>qB0.2 ⟨fun z hz=>by grind [qdZ],qwd (a+1) n⟩
theorem qwn:∀ {e:Int} {R:List (Int×Int)},Sep e R→(flat R).Pairwise (·<·)
 | _,[],_=>by simp[flat]
 | e,r::R,h=>by
  rw[k7,qCM]
  refine ⟨qwd _ _,qwn h.2.2,fun x hx y hy=>?_⟩
  have h1:=qdZ.1 hx
  have h2:=qrc h.2.2 y hy
  omega
theorem qgR:∀ {e:Int} {R:List (Int×Int)} (p:Int×Int→Bool),Sep e R→Sep e (R.filter p)
 | _,[],_,_=>trivial
 | e,r::R,p,h=>by
  have ih:=qgR p h.2.2
  rw[qC3]
  split
  ·exact ⟨h.1,h.2.1,ih⟩
  ·exact qwo ih (by have:=h.1;have:=h.2.1;omega)
def qaI {σ τ:Type}(yy:σ→(Int×Int)→Option (σ ⊕ τ)):List (Int×Int)→σ→Option (σ ⊕ τ)
 | [],s=>some (.inl s)
 | r::R,s=>(yy s r).bind (Sum.elim (fun s'=>qaI yy R s') (fun t=>some (.inr t)))
def Mid (l:qD0):Prop:=∀ x∈l,-4611686018427387904≤x∧x≤4611686018427387904
theorem qwk {σ τ:Type}{F:Nat}{yy:σ→(Int×Int)→Option (σ ⊕ τ)}{rec31:(Int×σ)→Option (σ ⊕ τ)}{l:qD0}{i:Nat}{x:Int}{s:σ}(hl:l.length≤1000000)(hm:Mid l)(hx:l[i]?=some x) :
  ∀ (k j:Nat),cr (x+1) (l.drop (i+1))<k+j→j≤cr (x+1) (l.drop (i+1)) →
   vf F yy rec31 l (i:Int) s k ((1+j:Nat):Int)=qbo F yy rec31 l (i:Int) s ((1+cr (x+1) (l.drop (i+1)):Nat):Int)
 | 0,_,_,_=>by omega
 | k+1,j,h,hj=>by
  have hi:=(qBC.1 hx).1
  have hcl:=quP (x+1) (l.drop (i+1))
  rw[qCc] at hcl
  have hxm:=hm x (qBl hx)
  show qbn F yy rec31 l (i:Int) s (vf F yy rec31 l (i:Int) s k) ((1+j:Nat):Int)=_
  unfold qbn
  rw[qb0 (by omega)]
  by_cases hlt:i+(1+j)<l.length
  ·have hg:l[i+(1+j)]?=some l[i+(1+j)]:=qBk hlt
   have hd:(l.drop (i+1))[j]?=some l[i+(1+j)]:=by grind
   rw[if_pos (by grind),qo,qo,hx,hg]
   simp only[qBi]
   rw[zb (by omega) (by omega)]
   unfold qbp
   by_cases hjc:j<cr (x+1) (l.drop (i+1))
   ·have:=quO (x+1) (l.drop (i+1)) hjc
    rw[hd,qBs] at this
    rw[if_pos (by grind),qu (by omega),show 1+j+1=1+(j+1) from by omega]
    exact qwk hl hm hx k (j+1) (by omega) (by omega)
   ·obtain rfl:j=cr (x+1) (l.drop (i+1)):=by omega
    grind [quN]
  ·obtain rfl:j=cr (x+1) (l.drop (i+1)):=by omega
   rw[if_neg (by grind)]
   rfl
theorem qwl {σ τ:Type}{F:Nat}{yy:σ→(Int×Int)→Option (σ ⊕ τ)}{l:qD0}(hl:l.length≤1000000)(hF:l.length+1<F)(hm:Mid l) :
  ∀ (k i:Nat) (s:σ),l.length<k+i→i≤l.length→zi F yy l k ((i:Int),s)=qaI yy (rs (l.drop i)) s
 | 0,_,_,_,_=>by omega
 | k+1,i,s,h,hi=>by
  show qbm F yy l (zi F yy l k) (i:Int) s=_
  unfold qbm
  by_cases hlt:i<l.length
  ·have hcl:=quP (l[i]+1) (l.drop (i+1))
   rw[qCc] at hcl
   have h1:=qwk (F:=F) (yy:=yy) (rec31:=zi F yy l k) (s:=s) hl hm (qBk hlt) F 0 (by omega) (by omega)
   rw[show ((1+0:Nat):Int)=1 from rfl] at h1
   rw[if_pos (by simp_all),h1,qBq hlt,qsS]
   unfold qbo qaI
   rw[qo,qBk hlt]
   simp only[qBi]
   rw[qb0 (by omega),show ((1+cr (l[i]+1) (l.drop (i+1)):Nat):Int)=1+(cr (l[i]+1) (l.drop (i+1)):Int) from by omega]
   congr 2
   funext s'
   rw[qwl hl hF hm k _ s' (by omega) (by omega),List.drop_drop]
   grind
  ·rw[if_neg (by simp_all),qBu (by omega)]
   rfl
theorem qyf {σ τ:Type}{yy:σ→(Int×Int)→Option (σ ⊕ τ)}{l:qD0}{s:σ}(hl:l.length≤1000000)(hF:l.length+1<F)(hm:Mid l):qb4 F yy l s=qaI yy (rs l) s:=by
 unfold qb4
 exact qwl hl hF hm F 0 s (by omega) (by omega)
def spO (least:Int)(R:List (Int×Int)):List (Int×Int):=R.filter fun r=>decide (least≤r.2)
def spS (least:Int)(R:List (Int×Int)):List (Int×Int):=R.filter fun r=>decide (r.2<least)
theorem qzj {least:Int}(h:least≤r.2):spO least (r::R)=r::spO least R:=by grind [spO]
theorem qzi {least:Int}(h:¬ least≤r.2):spO least (r::R)=spO least R:=by grind [spO]
theorem qzl {least:Int}(h:¬ least≤r.2):spS least (r::R)=r::spS least R:=by grind [spS]
theorem qzk {least:Int}(h:least≤r.2):spS least (r::R)=spS least R:=by grind [spS]
theorem qmX {F:Nat}{o:List (Int×Int)}{a n:Int}(ha:-4611686018427387904≤a∧a≤4611686018427387904)(hn:0≤n∧n≤1000000){rest:qD0}(hr:rest.length≤1000000):∀ (k j:Nat),n.toNat<k+j→j≤n.toNat →
  qf0 F o a n k ((j:Int),rest++rng a j)=some (.inl (rest++rng a n.toNat,o))
 | 0,_,_,_=>by omega
 | k+1,j,h,hj=>by
  show qfZ F o a n (qf0 F o a n k) (j:Int) (rest++rng a j)=_
  unfold qfZ
  by_cases hlt:j<n.toNat
  ·rw[if_pos (by simp_all),kG (by simp[qeM];omega),zb (by omega) (by omega),qu (by omega)]
   simp only[qBi]
   rw[qBt,← qlv]
   exact qmX ha hn hr k (j+1) (by omega) (by omega)
  grind
def Small (R:List (Int×Int)):Prop:=∀ r∈R,(-4611686018427387904≤r.1∧r.1≤4611686018427387904)∧0≤r.2∧r.2≤1000000
def rawY (F:Nat)(least:Int)(s:qD0×List (Int×Int))(r:Int×Int):Option ((qD0×List (Int×Int)) ⊕ Empty):=qb3 F least s.1 s.2 r.1 r.2
theorem qjW {F:Nat}{least:Int}(hF:1000001<F):∀ (R:List (Int×Int)) (rest:qD0) (o:List (Int×Int)),Small R→rest.length+(flat R).length≤1000000→o.length+R.length≤1000000 →
  qaI (rawY F least) R (rest,o)=some (.inl (rest++flat (spS least R),o++spO least R))
 | [],rest,o,_,_,_=>by simp[qaI,spS,spO,flat]
 | (a,n)::R,rest,o,hs,h1,h2=>by
  have hr:=hs (a,n) (by simp)
  have hs':Small R:=fun r hr=>hs r (by grind)
  rw[k7,qBr,qeM] at h1
  rw[qBQ] at h2
  simp only at hr h1
  show ((qb3 F least rest o a n).bind _)=_
  unfold qb3
  by_cases h:least≤n
  ·rw[if_pos (by grind),kG (by grind)]
   simp only[qBi,Sum.elim_inl]
   rw[qjW hF R _ _ hs' (by omega) (by grind)]
   grind [qzj,qzk]
  ·rw[if_neg (by grind)]
   have hl:=qmX (F:=F) (o:=o) hr.1 hr.2 (rest:=rest) (by omega) F 0 (by omega) (by omega)
   rw[rng,qBV] at hl
   rw[show ((0:Nat):Int)=0 from rfl] at hl
   rw[hl]
   simp only[qBi,Sum.elim_inl]
   rw[qjW hF R _ _ hs' (by grind [qeM]) (by omega)]
   grind [qzi,qzl,k7]
theorem qwi:∀ {q:Int} {R:List (Int×Int)},Sep q R→∀ r∈R,1≤r.2
 | _,[],_=>by simp
 | q,r::R,h=>by
  intro r' hr
  rcases qBp.1 hr with rfl | hr
  ·exact h.2.1
  ·exact qwi h.2.2 r' hr
theorem qjH (hr:r∈R):r.2.toNat≤(flat R).length:=by
 obtain ⟨A,B,rfl⟩:=List.append_of_mem hr
 grind [qpj,k7,qeM]
theorem qjG (h:Sep q R):R.length≤(flat R).length:=by
 induction R generalizing q with
 | nil=>simp
 | cons r R ih =>
  have:=ih h.2.2
  have:=h.2.1
  grind [k7,qeM]
theorem qsJ {l:qD0}(h:Ris q l):Mid l:=fun x hx=>by have:=qjV h x hx;grind [Nd]
theorem qwj {l:qD0}(hl:l.length≤1000000)(h:Ris q l):Small (rs l):=by
 intro r hr
 have hs:=qlz (qb1 h).1 (qb1 h).2
 have h1:=qwi hs r hr
 have h2:=qjH hr
 have hf:r.1∈flat (rs l):=qu5.2 ⟨r,hr,by omega,by omega⟩
 rw[qeN] at h2 hf
 have h3:=qsJ h _ hf
 omega
theorem qra (hF:2000000≤F){l:qD0}{least:Int}(hl:l.length≤300)(h:Ris q l):qgC F l least=some (spO least (rs l),flat (spS least (rs l))):=by
 unfold qgC qhe
 simp only[qBi]
 have hs:=qlz (qb1 h).1 (qb1 h).2
 have hlong:=qjG hs
 rw[qeN] at hlong
 have hf:=qjW (F:=F) (least:=least) (by omega) (rs l) [] [] (qwj (by omega) h) (by grind [qeN]) (by grind)
 have he:=qyf (yy:=rawY F least) (s:=(([]:qD0),([]:List (Int×Int)))) (by omega) (by omega:l.length+1<F) (qsJ h)
 rw[hf] at he
 show ((qb4 F (rawY F least) l ([],[])).bind _)=_
 simp_all
def rowE (n:Int):Int→qD0→Int
 | _,[]=>0
 | last,x::l=>if x<0∨n≤x then 3 else if x≤last then 4 else rowE n x l
def gE (n:Int):List (qD0)→Int
 | []=>0
 | l::g=>if rowE n (-1) l≠0 then rowE n (-1) l else gE n g
def gtot:List (qD0)→Nat
 | []=>0
 | l::g=>l.length+gtot g
def gchk (g:List (qD0)):Int:=if 100<g.length then 2 else if gE g.length g≠0 then gE g.length g else if 600<gtot g then 2 else 0
theorem qkA:∀ {n last:Int} {l:qD0},rowE n last l=0↔(l.Pairwise (·<·)∧∀ x∈l,last<x)∧∀ x∈l,0≤x∧x<n
 | n,last,[]=>by simp[rowE]
 | n,last,x::l=>by
  unfold rowE
  by_cases h1:x<0∨n≤x
  ·rw[if_pos h1]
   constructor
   ·omega
   ·rintro ⟨_,h⟩;have:=h x (by simp);omega
  ·rw[if_neg h1]
   by_cases h2:x≤last
   ·grind
   ·rw[if_neg h2,qkA,qB0]
    grind
theorem qn8 {n last:Int}:∀ {l:qD0},-1≤last→last<n→rowE n last l=0→last+1+l.length≤n
 | [],h1,h2,_=>by grind
 | x::l,h1,h2,h=>by
  unfold rowE at h
  split at h
  ·omega
  ·split at h
   ·omega
   ·have:=qn8 (l:=l) (by omega) (by omega) h
    grind
theorem qva {n:Int}:∀ {g:List (qD0)},gE n g=0↔∀ l∈g,rowE n (-1) l=0
 | []=>by simp[gE]
 | l::g=>by
  unfold gE
  by_cases h:rowE n (-1) l=0
  ·rw[if_neg (by omega),qva];grind
  simp_all
def Gr (g:List (qD0)):Prop:=g.length≤100∧(∀ l∈g,l.Pairwise (·<·)∧∀ x∈l,0≤x∧x<g.length)∧gtot g≤600
theorem jP:gchk g=0↔Gr g:=by
 unfold gchk Gr
 by_cases h1:100<g.length
 ·omega
 ·rw[if_neg h1]
  by_cases h2:gE g.length g=0
  ·rw[if_neg (by omega)]
   have h3:=qva.1 h2
   have h4:∀ l∈g,l.Pairwise (·<·)∧∀ x∈l,0≤x∧x<(g.length:Int):=fun l hl=>by
    grind [qkA]
   grind
  grind [qva,qkA]
theorem qgI (h:Gr g){l:qD0}(hl:l∈g):l.length≤100:=by
 have h1:=(h.2.1 l hl).2
 have h2:rowE g.length (-1) l=0:=qkA.2 ⟨⟨(h.2.1 l hl).1,fun x hx=>by grind⟩,h1⟩
 have:=qn8 (by omega) (by omega) h2
 have:=h.1
 omega
theorem qo4 {F:Nat}{rec38:(Int×Int)→Option Int}{g:List (qD0)}{m i:Int}{l:qD0}(hg:g.length≤100):∀ (k j:Nat) (last:Int),102<k+j→(j:Int)≤last+1→last<g.length→-1≤last →
  qcY F rec38 g m i l k (last,(j:Int))=if rowE g.length last (l.drop j)≠0 then some (rowE g.length last (l.drop j)) else qbi F rec38 m i l
 | 0,j,last,h,h1,h2,h3=>by omega
 | k+1,j,last,h,h1,h2,h3=>by
  show qcV F rec38 g m i l (qcY F rec38 g m i l k) last (j:Int)=_
  unfold qcV
  by_cases hlt:j<l.length
  ·rw[if_pos (by simp_all),qo,qBk hlt,qBq hlt]
   simp only[qBi]
   unfold rowE
   by_cases c1:l[j]<0∨(g.length:Int)≤l[j]
   ·simp_all
   ·rw[if_neg (by grind),if_neg c1]
    by_cases c2:l[j]≤last
    ·simp_all
    ·rw[if_neg (by grind),if_neg c2,qu (by omega)]
     exact qo4 hg k (j+1) l[j] (by omega) (by omega) (by omega) (by omega)
  grind [qBu,rowE]
theorem qmx {F:Nat}(hF:1000≤F){g:List (qD0)}(hg:g.length≤100):∀ (k i:Nat) (m:Nat),g.length<k+i→i≤g.length→m≤100*i →
  vd F g k ((m:Int),(i:Int))=if gE g.length (g.drop i)≠0 then some (gE g.length (g.drop i)) else if 600<m+gtot (g.drop i) then some 2 else some 0
 | 0,_,_,_,_,_=>by omega
 | k+1,i,m,h,hi,hm=>by
  show qcU F g (vd F g k) (m:Int) (i:Int)=_
  unfold qcU
  by_cases hlt:i<g.length
  ·rw[if_pos (by simp_all),qo,qBk hlt,qBq hlt]
   simp only[qBi]
   have hin:=qo4 (F:=F) (rec38:=vd F g k) (m:=(m:Int)) (i:=(i:Int)) (l:=g[i]) hg F 0 (-1) (by omega) (by omega) (by omega) (by omega)
   rw[qB1,show ((0:Nat):Int)=0 from rfl] at hin
   rw[hin]
   unfold gE gtot
   by_cases hr:rowE g.length (-1) g[i]=0
   ·have hlen:=qn8 (by omega) (by omega) hr
    have e:(if rowE (g.length:Int) (-1) g[i]≠0 then rowE (g.length:Int) (-1) g[i] else gE (g.length:Int) (g.drop (i+1)))=gE (g.length:Int) (g.drop (i+1)):=if_neg (by omega)
    rw[if_neg (show ¬ rowE (g.length:Int) (-1) g[i]≠0 by omega),e]
    unfold qbi qcX
    rw[qb0 (by omega),qu (by omega),qmx hF hg k (i+1) (m+g[i].length) (by omega) (by omega) (by omega),qDj]
   simp_all
  grind [qcW,gE,gtot]
theorem qa0 (hF:1000≤F):kB F g=some (gchk g):=by
 unfold kB gchk
 by_cases h:100<g.length
 ·grind
 ·have:=qmx hF (g:=g) (by omega) F 0 0 (by omega) (by omega) (by omega)
  grind
def af (i:Nat):List (qD0)→List (Int×Int)
 | []=>[]
 | l::g=>l.map (fun x=>((i:Int),x))++af (i+1) g
theorem qkc {σ τ:Type}{yy:σ→(Int×Int)→Option (σ ⊕ τ)}:∀ (A B:List (Int×Int)) (s:σ),qaI yy (A++B) s=(qaI yy A s).bind (Sum.elim (fun s'=>qaI yy B s') (fun t=>some (.inr t)))
 | [],B,s=>rfl
 | p::A,B,s=>by
  show (yy s p).bind _=((yy s p).bind _).bind _
  cases yy s p with
  | none=>rfl
  | some r =>
   cases r with
   | inl s'=>exact qkc A B s'
   | inr t=>rfl
theorem quu {σ τ:Type}{F:Nat}{yy:σ→(Int×Int)→Option (σ ⊕ τ)}{rec7:(Int×σ)→Option (σ ⊕ τ)}{i:Int}{l:qD0}(hm:l.length≤1000000):∀ (k j:Nat) (s:σ),l.length<k+j→j≤l.length →
  js F yy rec7 i l k ((j:Int),s)=(qaI yy ((l.drop j).map fun x=>(i,x)) s).bind (Sum.elim (fun s'=>qbQ F yy rec7 i s') (fun t=>some (.inr t)))
 | 0,_,_,_,_=>by omega
 | k+1,j,s,h,hj=>by
  show qbh F yy rec7 i l (js F yy rec7 i l k) (j:Int) s=_
  unfold qbh
  by_cases hlt:j<l.length
  ·rw[if_pos (by simp_all),qo,qBk hlt,qBq hlt,qB2]
   simp only[qBi,qaI]
   cases yy s (i,l[j]) with
   | none=>rfl
   | some r =>
    cases r with
    | inl s' =>
     simp only[qBi,Sum.elim_inl]
     rw[qu (by omega)]
     exact quu hm k (j+1) s' (by omega) (by omega)
    | inr t=>rfl
  ·rw[if_neg (by simp_all),qBu (by omega)]
   rfl
theorem qrO {σ τ:Type}{F:Nat}{yy:σ→(Int×Int)→Option (σ ⊕ τ)}{g:List (qD0)}(hm:g.length≤1000000)(hr:∀ l∈g,l.length≤1000000∧l.length<F):∀ (k i:Nat) (s:σ),g.length<k+i→i≤g.length →
  zV F yy g k ((i:Int),s)=qaI yy (af i (g.drop i)) s
 | 0,_,_,_,_=>by omega
 | k+1,i,s,h,hi=>by
  show qbP F yy g (zV F yy g k) (i:Int) s=_
  unfold qbP
  by_cases hlt:i<g.length
  ·have hrow:=hr _ (qBE hlt)
   rw[if_pos (by simp_all),qo,qBk hlt,qBq hlt]
   simp only[qBi]
   have:=quu (F:=F) (yy:=yy) (rec7:=zV F yy g k) (i:=(i:Int)) hrow.1 F 0 s (by omega) (by omega)
   rw[qB1,show ((0:Nat):Int)=0 from rfl] at this
   rw[this]
   unfold af
   rw[qkc]
   congr 1
   funext r
   cases r with
   | inl s' =>
    simp only[Sum.elim_inl]
    unfold qbQ
    rw[qu (by omega)]
    exact qrO hm hr k (i+1) s' (by omega) (by omega)
   | inr t=>rfl
  ·rw[if_neg (by simp_all),qBu (by omega)]
   rfl
theorem qut {σ τ:Type}{yy:σ→(Int×Int)→Option (σ ⊕ τ)}{s:σ}(hF:g.length<F)(hm:g.length≤1000000)(hr:∀ l∈g,l.length≤1000000∧l.length<F):jD F yy g s=qaI yy (af 0 g) s:=by
 unfold jD
 have:=qrO (yy:=yy) hm hr F 0 s (by omega) (by omega)
 simp_all
theorem qqu:∀ (i:Nat) (g:List (qD0)),(af i g).length=gtot g
 | _,[]=>rfl
 | i,l::g=>by unfold af gtot;rw[qBr,qBJ,qqu (i+1) g]
def lexLt (p q:Int×Int):Prop:=p.1<q.1∨(p.1=q.1∧p.2<q.2)
instance decLex (p q:Int×Int):Decidable (lexLt p q):=by unfold lexLt;infer_instance
theorem qtD (a:Int×Int):¬ lexLt a a:=by unfold lexLt;omega
theorem qtE (a b:Int×Int):lexLt a b∨a=b∨lexLt b a:=by
 grind [lexLt]
def srtA (l:List (Int×Int)):List (Int×Int):=l.mergeSort fun a b=>decide (¬ lexLt b a)
theorem qjZ (l:List (Int×Int)):(srtA l).Perm l:=List.mergeSort_perm l _
theorem qym (l:List (Int×Int)):(srtA l).Pairwise fun a b=>¬ lexLt b a:=by
 have h:=List.pairwise_mergeSort (le:=fun a b:Int×Int=>decide (¬ lexLt b a)) (fun a b c h1 h2=>by simp only[decide_eq_true_eq] at *;grind [lexLt]) (fun a b=>by simp only[qCK,decide_eq_true_eq];unfold lexLt;omega) l
 exact h.imp (fun h=>by grind)
theorem qmI {l:List (Int×Int)}(h:l.Pairwise lexLt):l.Nodup:=List.Pairwise.imp (S:=fun a b=>a≠b) (fun {a b} h (he:a=b)=>qtD a (by simp_all)) h
theorem qpW {l:List (Int×Int)}(h:l.Nodup):(srtA l).Pairwise lexLt:=by
 have h1:(srtA l).Nodup:=(qjZ l).nodup_iff.2 h
 refine (List.Pairwise.and (qym l) h1).imp fun {a b} h=>?_
 grind [qtE]
theorem pwx:∀ {A B:qD0},A.Pairwise (·<·)→B.Pairwise (·<·)→(∀ z,z∈A↔z∈B)→A=B:=by
 intro A B hA hB h
 have nd:∀ {C:qD0},C.Pairwise (·<·)→C.Nodup:=fun hC=>hC.imp fun h=>by omega
 grind [qCP]
def rowOf (l:List (Int×Int))(i:Int):qD0:=(l.filter fun p=>decide (p.1=i)).map (·.2)
def tab (n:Nat)(l:List (Int×Int)):List (qD0):=(qBx n).map fun (i:Nat)=>rowOf l (i:Int)
theorem qhO (n:Nat)(l:List (Int×Int)):(tab n l).length=n:=by simp[tab]
theorem qkC {n i:Nat}{l:List (Int×Int)}(h:i<n):(tab n l)[i]?=some (rowOf l i):=by simp[tab,h]
theorem qhH (l:List (Int×Int))(i:Int):(rowOf l i).length≤l.length:=by
 grind [rowOf]
theorem qlS {n:Nat}{l:List (Int×Int)}{b:Int}:tab n (l++[((a:Int),b)])=(tab n l).set a (rowOf l a++[b]):=by
 apply qBY (by simp[tab])
 intro i h1 h2
 rw[qhO] at h1
 rw[qDN]
 simp only[tab,qC4,qCH]
 grind [rowOf]
theorem qs4 (n:Nat):tab n []=qBj n []:=by
 apply qBY (by simp[tab])
 grind [tab,rowOf]
theorem qvz {n:Nat}(h:n≤lim):mk lim ([]:qD0) (n:Int)=some (tab n []):=by
 grind [mk,qs4]
def InR (n:Nat)(l:List (Int×Int)):Prop:=∀ p∈l,0≤p.1∧p.1<(n:Int)∧0≤p.2∧p.2<(n:Int)
theorem qbV {α:Type}{l:List α}{j:Nat}(h:j<l.length):l.take (j+1)=l.take j++[l[j]]:=by
 simp
def IsTab (n:Nat)(l:List (Int×Int))(T:List (qD0)):Prop :=
 T.length=n∧∀ (i:Nat) (r:qD0),T[i]?=some r→r.Pairwise (·<·)∧∀ x,x∈r↔((i:Int),x)∈l
theorem qlf {n:Nat}{l l':List (Int×Int)}{T':List (qD0)}(h:IsTab n l T)(h':IsTab n l' T')(hm:∀ p,p∈l↔p∈l'):T=T':=by
 apply qBY (by rw[h.1,h'.1])
 intro i h1 h2
 have a:=h.2 i _ (qBk h1)
 have b:=h'.2 i _ (qBk h2)
 grind [pwx]
theorem qmL {l:List (Int×Int)}{x:Int}:x∈rowOf l i↔(i,x)∈l:=by
 unfold rowOf
 simp
theorem qwe {l:List (Int×Int)}(h:l.Pairwise lexLt):(rowOf l i).Pairwise (·<·):=by
 unfold rowOf
 rw[qCX]
 refine (h.filter _).imp_of_mem fun {a b} ha hb hab=>?_
 simp_all [lexLt]
theorem qul {n:Nat}{l:List (Int×Int)}(h:l.Pairwise lexLt):IsTab n l (tab n l):=by
 refine ⟨qhO n l,fun i r hr=>?_⟩
 grind [qhO,qkC,qwe,qmL]
theorem qpq {n:Nat}{l l':List (Int×Int)}(h:IsTab n l T)(hm:∀ p,p∈l↔p∈l'):IsTab n l' T :=
 ⟨h.1,fun i r hr=>⟨(h.2 i r hr).1,fun x=>by rw[(h.2 i r hr).2,hm]⟩⟩
theorem qit:∀ {g:List (qD0)} {k:Nat} {p:Int×Int},p∈af k g↔∃ i r,g[i]?=some r∧p.1=((k+i:Nat):Int)∧p.2∈r
 | [],k,p=>by simp[af]
 | l::g,k,p=>by
  unfold af
  rw[qBn,qit (g:=g),qBK]
  constructor
  ·rintro (⟨x,hx,rfl⟩ | ⟨i,r,h1,h2,h3⟩)
   ·exact ⟨0,l,by simp,by simp,hx⟩
   ·exact ⟨i+1,r,by grind,by omega,h3⟩
  grind
theorem qus:∀ {g:List (qD0)} {k:Nat},(∀ r∈g,r.Pairwise (·<·))→(af k g).Pairwise lexLt
 | [],k,_=>by simp[af]
 | l::g,k,h=>by
  unfold af
  rw[qCM]
  refine ⟨?_,qus fun r hr=>h r (by grind),?_⟩
  ·rw[qCX]
   exact (h l (by simp)).imp fun h=>.inr ⟨rfl,h⟩
  ·intro a ha b hb
   obtain ⟨x,_,rfl⟩:=qBK.1 ha
   obtain ⟨i,r,_,h2,_⟩:=qit.1 hb
   left
   omega
theorem qur (h:∀ r∈g,r.Pairwise (·<·)):IsTab g.length (af 0 g) g:=by
 refine ⟨rfl,fun i r hr=>⟨h r (qBl hr),fun x=>?_⟩⟩
 grind [qit]
theorem qpr {n:Nat}{l:List (Int×Int)}(h:IsTab n l T):∀ r∈T,r.Pairwise (·<·):=fun r hr=>by
 obtain ⟨i,hi⟩:=qCo hr
 exact (h.2 i r hi).1
theorem qtB {n:Nat}{l:List (Int×Int)}(h:IsTab n l T)(hl:InR n l)(p:Int×Int):p∈af 0 T↔p∈l:=by
 rw[qit]
 constructor
 ·rintro ⟨i,r,h1,h2,h3⟩
  have:=((h.2 i r h1).2 p.2).1 h3
  grind
 ·intro hp
  obtain ⟨h1,h2,_,_⟩:=hl p hp
  obtain ⟨a,ha⟩:=qBm h1
  have hlt:a<T.length:=by rw[h.1];omega
  refine ⟨a,T[a],qBk hlt,by omega,?_⟩
  rw[(h.2 a _ (qBk hlt)).2,← ha]
  omega
theorem qle {n:Nat}{l:List (Int×Int)}(h:IsTab n l T)(hl:InR n l)(hn:l.Nodup):(af 0 T).Perm l :=
 (List.perm_ext_iff_of_nodup (qmI (qus (qpr h))) hn).2 (qtB h hl)
theorem qvl {n:Nat}{l:List (Int×Int)}(h:IsTab n l T)(hl:InR n l)(hn:n≤100)(hm:(af 0 T).length≤600):Gr T:=by
 refine ⟨by rw[h.1];omega,fun r hr=>⟨qpr h r hr,fun x hx=>?_⟩,by grind [qqu]⟩
 obtain ⟨i,hi⟩:=qCo hr
 have:=hl _ (((h.2 i r hi).2 x).1 hx)
 rw[h.1]
 omega
theorem qi3 (h:Gr g):InR g.length (af 0 g):=fun p hp=>by
 obtain ⟨i,r,h1,h2,h3⟩:=qit.1 hp
 have h4:=(qBC.1 h1).1
 have h5:=(h.2.1 r (qBl h1)).2 _ h3
 omega
theorem qy6 (h:Gr g):∀ r∈g,r.Pairwise (·<·):=fun r hr=>(h.2.1 r hr).1
theorem qm1 {n:Nat}{l:List (Int×Int)}(h:l.Nodup):IsTab n l (tab n (srtA l)) :=
 qpq (qul (qpW h)) fun _=>(qjZ l).mem_iff
def cols (l:List (Int×Int))(i j:Nat):qD0:=((qBx j).filter fun (c:Nat)=>decide (((i:Int),(c:Int))∈l)).map fun (c:Nat)=>(c:Int)
theorem quJ (l:List (Int×Int))(i j:Nat):(cols l i j).length≤j:=by
 grind [cols]
theorem qqC {n:Nat}{l:List (Int×Int)}(hl:InR n l):IsTab n l ((qBx n).map fun i=>cols l i n):=by
 refine ⟨by simp,fun i r hr=>?_⟩
 have hi:i<n:=by grind
 simp only[qCp,qDt hi,qCj,qBs] at hr
 subst hr
 unfold cols
 constructor
 ·rw[qCX]
  exact (List.pairwise_lt_range.filter _).imp fun h=>by omega
 ·intro x
  rw[qBK]
  constructor
  ·grind
  ·intro h
   have:=hl _ h
   grind [qBm]
def gsw (l:List (Int×Int)):List (Int×Int):=l.map fun p=>(p.2,p.1)
theorem qwu (l:List (Int×Int)):(gsw l).length=l.length:=by simp[gsw]
theorem qAs {l:List (Int×Int)}{p:Int×Int}:p∈gsw l↔(p.2,p.1)∈l:=by
 unfold gsw
 grind
theorem qwt {n:Nat}{l:List (Int×Int)}(h:InR n l):InR n (gsw l):=fun p hp=>by
 have:=h _ (qAs.1 hp)
 omega
theorem qjk {l:List (Int×Int)}(h:l.Nodup):(gsw l).Nodup:=by
 grind [gsw]
theorem qqN (h:Gr g):(af 0 g).length≤600:=by rw[qqu];exact h.2.2
theorem qi4 (h:Gr g):(af 0 g).Nodup:=qmI (qus (qy6 h))
def tn (g:List (qD0)):List (qD0):=tab g.length (srtA (gsw (af 0 g)))
theorem qjr (h:Gr g):IsTab g.length (gsw (af 0 g)) (tn g):=qm1 (qjk (qi4 h))
theorem qzn (h:Gr g):Gr (tn g):=by
 have h1:=qle (qjr h) (qwt (qi3 h)) (qjk (qi4 h))
 refine qvl (qjr h) (qwt (qi3 h)) h.1 ?_
 rw[h1.length_eq,qwu];exact qqN h
theorem qBb (h:Gr g):(af 0 (tn g)).Perm (gsw (af 0 g)):=qle (qjr h) (qwt (qi3 h)) (qjk (qi4 h))
theorem qou (g:List (qD0)):(tn g).length=g.length:=qhO _ _
theorem qys (l:List (Int×Int))(p:Int×Int):gsw (l++[p])=gsw l++[(p.2,p.1)]:=by simp[gsw]
def Ld (g:List (qD0))(u v:Nat):Prop:=((u:Int),(v:Int))∈af 0 g
theorem qjM {u v:Nat}:Ld g u v↔∃ r,g[u]?=some r∧(v:Int)∈r:=by
 unfold Ld
 rw[qit]
 grind
theorem qvq (hg:Gr g){u v:Nat}(h:Ld g u v):u<g.length∧v<g.length:=by
 have:=qi3 hg _ h
 omega
theorem qy7 (hg:Gr g){u v:Nat}:Ld (tn g) u v↔Ld g v u:=by
 unfold Ld
 rw[(qBb hg).mem_iff]
 unfold gsw
 grind
def Wk (g:List (qD0)):Nat→Nat→Nat→Prop
 | 0,s,t=>s=t
 | k+1,s,t=>∃ u,Ld g s u∧Wk g k u t
theorem qrE {g:List (qD0)}:∀ {j k s u t:Nat},Wk g j s u→Wk g k u t→Wk g (j+k) s t
 | 0,k,s,u,_,h1,h2=>by
  have h1:s=u:=h1
  simp_all
 | j+1,k,_,_,_,⟨w,h0,h1⟩,h2=>by
  rw[show j+1+k=(j+k)+1 by omega]
  exact ⟨w,h0,qrE h1 h2⟩
theorem qw9 (h:Ld g s t):Wk g 1 s t:=⟨t,h,rfl⟩
theorem qyU {u:Nat}(h1:Wk g k s u)(h2:Ld g u t):Wk g (k+1) s t:=qrE h1 (qw9 h2)
theorem qBc (hg:Gr g)(hs:s<g.length):Wk g k s t→t<g.length:=by
 induction k generalizing s with
 | zero=>intro h;have h:s=t:=h;omega
 | succ k ih=>rintro ⟨u,h0,h1⟩;grind [qvq]
def gD (d:qD0)(t:Nat):Int:=d.getD t (-1)
theorem qqK (h:t<d.length):d[t]?=some (gD d t):=by grind [gD]
theorem qzN (h:d.length≤t):gD d t=-1:=by grind [gD]
theorem qnK {e:qD0}(hl:d.length=e.length)(h:∀ t,t<d.length→gD d t=gD e t):d=e:=by
 apply qBU ;grind [qqK]
structure FarOk (g:List (qD0)) (s:Nat) (d:qD0):Prop where
 len:d.length=g.length
 src:gD d s=0
 low:∀ t,-1≤gD d t
 up:∀ u t,Ld g u t→0≤gD d u→0≤gD d t∧gD d t≤gD d u+1
 fr:∀ t,t≠s→0≤gD d t→∃ u,Ld g u t∧gD d u+1=gD d t∧0≤gD d u
theorem FarOk.wk (h:FarOk g s d):∀ {k u t:Nat},Wk g k u t→0≤gD d u→0≤gD d t∧gD d t≤gD d u+k
 | 0,u,t,hw,h0=>by have hw:u=t:=hw;simp_all
 | k+1,u,t,⟨v,h1,h2⟩,h0=>by
  have h3:=h.up u v h1 h0
  have h4:=h.wk h2 h3.1
  omega
theorem FarOk.le (h:FarOk g s d)(hw:Wk g k s t):0≤gD d t∧gD d t≤k:=by
 have:=h.wk hw (by rw[h.src];omega)
 rw[h.src] at this;omega
theorem FarOk.way (h:FarOk g s d):∀ (k t:Nat),gD d t=k→Wk g k s t
 | 0,t,hk=>by
  by_cases ht:t=s
  ·subst ht;rfl
  ·obtain ⟨u,_,h2,h3⟩:=h.fr t ht (by omega)
   omega
 | k+1,t,hk=>by
  by_cases ht:t=s
  ·subst ht;rw[h.src] at hk;omega
  ·obtain ⟨u,h1,h2,h3⟩:=h.fr t ht (by omega)
   exact qyU (h.way k u (by omega)) h1
theorem FarOk.way' (h:FarOk g s d)(h0:0≤gD d t):Wk g (gD d t).toNat s t:=h.way _ t (by omega)
theorem FarOk.uni {e:qD0}(h:FarOk g s d)(h':FarOk g s e):d=e:=by
 refine qnK (by rw[h.len,h'.len]) fun t _=>?_
 have l1:=h.low t
 have l2:=h'.low t
 by_cases h0:0≤gD d t
 ·have a:=h'.le (h.way' h0)
  have b:=h.le (h'.way' a.1)
  omega
 ·by_cases h1:0≤gD e t
  ·have b:=h.le (h'.way' h1)
   omega
  omega
theorem qfk:∀ {L M:List Nat},L.Nodup→(∀ x∈L,x∈M)→L.length≤M.length
 | [],_,_,_=>Nat.zero_le _
 | x::L,M,h,hs=>by
  have hx:=hs x (by simp)
  have h1:=qCi.1 h
  have:=qfk (L:=L) (M:=M.erase x) h1.2 fun y hy=>(List.mem_erase_of_ne (fun e:y=x=>h1.1 (e▸hy))).2 (hs y (by grind))
  grind
theorem FarOk.levels (h:FarOk g s d):∀ (k t:Nat),gD d t=k→∀ j,j≤k→∃ v,gD d v=(j:Int)
 | 0,t,hk,j,hj=>⟨t,by omega⟩
 | k+1,t,hk,j,hj=>by
  by_cases hjk:j=k+1
  ·grind
  ·by_cases ht:t=s
   ·subst ht;rw[h.src] at hk;omega
   ·obtain ⟨u,h1,h2,h3⟩:=h.fr t ht (by omega)
    exact h.levels k u (by omega) j (by omega)
theorem FarOk.lt (h:FarOk g s d)(t:Nat)(ht:0<g.length):gD d t<g.length:=by
 by_cases h0:0≤gD d t
 ·obtain ⟨k,hk⟩:=qBm h0
  have:=qfk (L:=qBx (k+1)) (M:=d.map Int.toNat) qDm fun j hj=>by
   obtain ⟨v,hv⟩:=h.levels k t hk j (by grind)
   have hvl:v<d.length:=by
    grind [qzN]
   exact qBK.2 ⟨gD d v,qBl (qqK hvl),by omega⟩
  rw[List.length_range,qBJ,h.len] at this
  omega
 omega
def Ud (g:List (qD0))(u v:Nat):Prop:=Ld g u v∨Ld g v u
def Uw (g:List (qD0)):Nat→Nat→Nat→Prop
 | 0,s,t=>s=t
 | k+1,s,t=>∃ u,Ud g s u∧Uw g k u t
theorem qyQ {u v:Nat}(h:Ud g u v):Ud g v u:=h.symm
theorem qrC {g:List (qD0)}:∀ {j k s u t:Nat},Uw g j s u→Uw g k u t→Uw g (j+k) s t
 | 0,k,s,u,_,h1,h2=>by
  have h1:s=u:=h1
  simp_all
 | j+1,k,_,_,_,⟨w,h0,h1⟩,h2=>by
  rw[show j+1+k=(j+k)+1 by omega]
  exact ⟨w,h0,qrC h1 h2⟩
theorem qAz (h:Ud g s t):Uw g 1 s t:=⟨t,h,rfl⟩
theorem qoA {g:List (qD0)}:∀ {k s t:Nat},Uw g k s t→Uw g k t s
 | 0,s,t,h=>(show s=t from h).symm
 | _+1,_,_,⟨_,h0,h1⟩=>qrC (qoA h1) (qAz (qyQ h0))
structure PartOk (g:List (qD0)) (p:qD0):Prop where
 len:p.length=g.length
 le:∀ t,t<g.length→0≤gD p t∧gD p t≤t
 arc:∀ u v,Ld g u v→gD p u=gD p v
 con:∀ t,t<g.length→∃ k,Uw g k (gD p t).toNat t
theorem PartOk.same (h:PartOk g p):∀ {k x y:Nat},Uw g k x y→gD p x=gD p y
 | 0,x,y,e=>by have e:x=y:=e;rw[e]
 | k+1,x,y,⟨u,h0,h1⟩=>by
  rw[← h.same h1]
  rcases h0 with h0 | h0
  ·exact h.arc _ _ h0
  ·exact (h.arc _ _ h0).symm
theorem PartOk.least (h:PartOk g p)(hy:y<g.length)(hw:Uw g k x y):gD p x≤y:=by
 rw[h.same hw];exact (h.le y hy).2
theorem PartOk.uni {q:qD0}(h:PartOk g p)(h':PartOk g q):p=q:=by
 have key:∀ {p q:qD0},PartOk g p→PartOk g q→∀ t,t<g.length→gD p t≤gD q t:=by
  intro p q h h' t ht
  obtain ⟨k,hk⟩:=h'.con t ht
  have a:=h'.le t ht
  have:=h.least (by omega) (qoA hk)
  omega
 refine qnK (by rw[h.len,h'.len]) fun t ht=>?_
 rw[h.len] at ht
 grind
theorem PartOk.iff (h:PartOk g p)(hs:s<g.length)(ht:t<g.length):gD p s=gD p t↔∃ k,Uw g k s t:=by
 constructor
 ·intro e
  obtain ⟨a,ha⟩:=h.con s hs
  obtain ⟨b,hb⟩:=h.con t ht
  rw[e] at ha
  exact ⟨_,qrC (qoA ha) hb⟩
 ·rintro ⟨k,hk⟩
  exact h.same hk
theorem qtH {n:Nat}(h:n≤100):qcg F 1 (n:Int)=some (0,(n:Int)):=by
 have key:∀ n:Fin 101,qcg 0 1 ((n.val:Nat):Int)=some (0,((n.val:Nat):Int)):=by decide +kernel
 exact key ⟨n,by omega⟩
theorem qzf {F n:Nat}{x:Int}(hn:n≤1000):∀ (k m:Nat),n<k+m→1≤m→m≤n→ky F k (qBj m x++qBj (n-m) 0,(m:Int))=some (qBj n x)
 | 0,m,h,_,hm=>by omega
 | k+1,m,h,h1,hm=>by
  show ym F (ky F k) (qBj m x++qBj (n-m) 0) (m:Int)=_
  unfold ym
  have hl:(qBj m x++qBj (n-m) (0:Int)).length=n:=by simp_all
  by_cases hlt:m<n
  ·have e2:sub (qBj m x++qBj (n-m) (0:Int)) 0 (m:Int)=some (qBj m x):=by
    have:=qlM (l:=qBj m x++qBj (n-m) (0:Int)) (i:=0) (j:=m) (by omega) (by omega)
    simp_all
   have e1:sub (qBj m x++qBj (n-m) (0:Int)) (m:Int) (n:Int)=some ((qBj m x++qBj (n-m) (0:Int)).drop m):=by
    grind [qlM]
   rw[if_pos (by simp_all),hl,e1]
   simp only[qBi]
   rw[e2]
   simp only[qBi]
   have hd:((qBj m x++qBj (n-m) (0:Int)).drop m).length=n-m:=by simp
   unfold lett
   rw[hd,qBo,qBP,qb0 (by omega)]
   have e3:yz m (qBj m x++qBj (n-m) (0:Int)) (qBj m x)=qBj (m+min m (n-m)) x++qBj (n-(m+min m (n-m))) 0:=by
    unfold yz
    rw[hl,qCJ (by simp),List.take_replicate,qBP,Nat.min_comm,List.drop_append,List.drop_replicate]
    grind [List.replicate_append_replicate]
   rw[e3]
   exact qzf hn k (m+min m (n-m)) (by omega) (by omega) (by omega)
  ·rw[if_neg (by simp_all)]
   unfold vF
   obtain rfl:m=n:=by omega
   simp
theorem qAd {n:Nat}{x:Int}(hF:1000≤F)(hn:n≤100):k6 F [x] (n:Int)=some (qBj n x):=by
 unfold k6
 have c1:iconv .u64 (([x]:qD0).length:Int)=1:=by rfl
 have c2:iconv .u64 (n:Int)=(n:Int):=by
  have key:∀ n:Fin 101,iconv .u64 ((n.val:Nat):Int)=((n.val:Nat):Int):=by decide +kernel
  exact key ⟨n,by omega⟩
 have c3:iconv .i64 (n:Int)=(n:Int):=by
  have key:∀ n:Fin 101,iconv .i64 ((n.val:Nat):Int)=((n.val:Nat):Int):=by decide +kernel
  exact key ⟨n,by omega⟩
 rw[if_neg (by simp),c1,c2,qtH hn]
 simp only[qBi]
 rw[if_neg (by grind),c3]
 have hmk:mk 17592186044416 (0:Int) (n:Int)=some (qBj n 0):=by
  grind [mk]
 rw[hmk]
 simp only[qBi]
 unfold lett
 by_cases h0:n=0
 ·subst h0
  obtain ⟨k,rfl⟩:=Nat.exists_eq_succ_of_ne_zero (show F≠0 by omega)
  rfl
 ·have e:yz 0 (qBj n (0:Int)) [x]=qBj 1 x++qBj (n-1) 0:=by
   unfold yz
   grind
  grind [qzf]
def iz (q:List Nat):qD0:=q.map fun (u:Nat)=>(u:Int)
theorem qeC (q:List Nat):(iz q).length=q.length:=by simp[iz]
theorem qvn {q:List Nat}{i:Nat}(h:i<q.length):(iz q)[i]?=some ((q.getD i 0:Nat):Int):=by
 grind [iz]
def lens (g:List (qD0)):qD0:=g.map fun r=>(r.length:Int)
def deg (n:Nat)(l:List (Int×Int)):qD0:=lens (tab n l)
theorem qrZ {n i:Nat}{l:List (Int×Int)}(h:i<n):(deg n l)[i]?=some ((rowOf l i).length:Int):=by
 grind [deg,lens,qkC]
theorem quV {n:Nat}{l:List (Int×Int)}{b:Int}:deg n (l++[((a:Int),b)])=(deg n l).set a (((rowOf l a).length+1:Nat):Int):=by
 grind [deg,lens,qlS,List.map_set]
theorem quU {n:Nat}{l l':List (Int×Int)}(h:l.Perm l'):deg n l=deg n l':=by
 unfold deg lens tab
 rw[qCG,qCG]
 refine qCR fun i _=>?_
 show ((rowOf l i).length:Int)=((rowOf l' i).length:Int)
 unfold rowOf
 rw[qBJ,qBJ,(h.filter _).length_eq]
theorem qts {n:Nat}{l:List (Int×Int)}(h:IsTab n l T)(hn:l.Nodup):deg n l=lens T:=by
 rw[qlf h (qm1 hn) fun p=>Iff.rfl,← quU (qjZ l)]
 rfl
theorem qiW {F n:Nat}{yy:(qD0×qD0)→(Int×Int)→Option ((qD0×qD0) ⊕ Empty)}(hy:∀ s p,yy s p=vD F s.1 s.2 p.1 p.2):∀ (A acc:List (Int×Int)),InR n A→acc.length+A.length≤1000000 →
  qaI yy A (deg n (gsw acc),deg n acc)=some (.inl (deg n (gsw (acc++A)),deg n (acc++A)))
 | [],acc,_,_=>by rw[qBV];rfl
 | p::A,acc,h,hm=>by
  rw[qBQ] at hm
  obtain ⟨h1,h2,h3,h4⟩:=h p (by simp)
  have hrec:=qiW hy A (acc++[p]) (fun q hq=>h q (by grind)) (by grind)
  rw[qBt] at hrec
  show (yy _ p).bind _=_
  rw[hy]
  unfold vD
  obtain ⟨a,ha⟩:=qBm h1
  obtain ⟨b,hb⟩:=qBm h3
  have e:p=((a:Int),(b:Int)):=Prod.ext ha hb
  have hl1:=qhH acc (a:Int)
  have hl2:=qhH (gsw acc) (b:Int)
  rw[qwu] at hl2
  subst e
  simp only at *
  rw[qo,qrZ (by omega)]
  simp only[qBi,lett]
  rw[qo,qrZ (by omega)]
  simp only[qBi]
  grind [qu,quV,qys]
theorem qnV (n:Nat):deg n []=qBj n 0:=by
 grind [deg,lens,qs4,List.map_replicate]
def degM (g:List (qD0)):qD0×qD0×Int:=if gchk g≠0 then ([],[],gchk g) else (lens g,lens (tn g),0)
theorem qqH (hF:1000≤F):qcf F g=some (degM g):=by
 unfold qcf degM
 rw[qa0 hF]
 simp only[qBi]
 by_cases h:gchk g=0
 ·have hg:=jP.1 h
  have h1:=hg.1
  have h2:=qqN hg
  rw[if_neg (by grind),if_neg (by omega)]
  have hmk:mk 17592186044416 (0:Int) (g.length:Int)=some (deg g.length []):=by
   grind [mk,qnV]
  rw[hmk]
  simp only[qBi]
  unfold qco qbF
  simp only[qBi]
  rw[qut (by omega) (by omega) (fun l hl=>by grind [qgI])]
  have:=qiW (F:=F) (n:=g.length) (yy:=fun x x_1=>vD F x.1 x.2 x_1.1 x_1.2) (fun _ _=>rfl) (af 0 g) [] (qi3 hg) (by grind)
  rw[qBF] at this
  refine (congrArg (fun z=>Option.bind z _) this).trans ?_
  grind [qts,qur,qy6,qi4,qjr,qjk]
 simp_all
def By (s:qD0):Prop:=∀ x∈s,0≤x∧x<256
def cut8 (c:UInt8):List UInt8→List (List UInt8)
 | []=>[[]]
 | x::t=>if x=c then []::cut8 c t else match cut8 c t with | []=>[[x]] | h::r=>(x::h)::r
theorem qqQ (t:List UInt8)(c:UInt8):-1≤Lib.index t [c]:=Lib.index_ge t [c]
theorem qka (x:UInt8)(t:List UInt8)(c:UInt8):Lib.index (x::t) [c]=if x=c then 0 else if Lib.index t [c]=-1 then -1 else Lib.index t [c]+1:=by
 rw[show Lib.index (x::t) [c]=if [c].isPrefixOf (x::t) then 0 else if Lib.index t [c] == -1 then -1 else Lib.index t [c]+1 from rfl]
 grind
theorem qlI (c:UInt8)(k:Nat)(s:List UInt8):Lib.splitK [c] 0 (k+1) s=if Lib.index s [c] == -1 then [s] else s.take ((Lib.index s [c]).toNat+0)::Lib.splitK [c] 0 k (s.drop ((Lib.index s [c]).toNat+1)):=rfl
theorem qlH (c:UInt8):∀ (L:List UInt8),Lib.splitK [c] 0 (L.count c) L=cut8 c L
 | []=>rfl
 | x::t=>by
  have ih:=qlH c t
  unfold cut8
  by_cases h:x=c
  ·subst h
   rw[List.count_cons_self,if_pos rfl,← ih]
   rw[qlI,qka,if_pos rfl]
   simp
  ·rw[if_neg h,← ih,List.count_cons_of_ne (fun e=>h e)]
   cases hk:t.count c with
   | zero=>rfl
   | succ k =>
    rw[qlI,qlI,qka,if_neg h]
    have hge:=qqQ t c
    grind
def cutI (c:Int):qD0→List (qD0)
 | []=>[[]]
 | x::t=>if x=c then []::cutI c t else match cutI c t with | []=>[[x]] | h::r=>(x::h)::r
theorem qmA (c x:Int)(t:qD0):cutI c (x::t)=if x=c then []::cutI c t else match cutI c t with | []=>[[x]] | h::r=>(x::h)::r:=rfl
def u8 (n:Int):UInt8:=UInt8.ofNat n.toNat
theorem qAx {a b:Int}(ha:0≤a∧a<256)(hb:0≤b∧b<256):u8 a=u8 b↔a=b:=by
 constructor
 ·intro h
  have h1:b8 a=b8 b:=by
   show ((u8 a).toNat:Int)=((u8 b).toNat:Int)
   rw[h]
  grind [quw]
 simp_all
def toI (l:List UInt8):qD0:=l.map fun u=>(u.toNat:Int)
theorem quQ {c:Int}(hc:0≤c∧c<256):∀ (s:qD0),By s→(cut8 (u8 c) (s.map u8)).map toI=cutI c s
 | [],_=>rfl
 | x::t,h=>by
  have hx:=h x (qBv ..)
  have ih:=quQ hc t fun y hy=>h y (qBz _ hy)
  have hb:((u8 x).toNat:Int)=x:=quw hx.1 hx.2
  rw[qB2]
  unfold cut8 cutI
  by_cases e:x=c
  ·subst e
   rw[if_pos rfl,if_pos rfl,qB2,ih]
   rfl
  ·rw[if_neg (fun e2=>e ((qAx hx hc).1 e2)),if_neg e,← ih]
   cases cut8 (u8 c) (t.map u8) with
   | nil=>grind [toI]
   | cons a r =>
    show toI (u8 x::a)::r.map toI=(x::toI a)::r.map toI
    rw[show toI (u8 x::a)=((u8 x).toNat:Int)::toI a from rfl,hb]
theorem qtZ {c:Int}{s:qD0}(hc:0≤c∧c<256)(hs:By s)(hl:s.length<4294967281):splitM s [c]=some (cutI c s):=by
 unfold splitM
 simp only[hl,if_true]
 congr 1
 have h1:=Lib.splitB_data (bstr [c]) 0 (Lib.countB (bstr s) (bstr [c])) (bstr s)
 have h2:Lib.countB (bstr s) (bstr [c])=(s.map u8).count (u8 c):=by
  show Lib.count (bstr s).data.toList (bstr [c]).data.toList=_
  rw[qaa,qaa]
  exact Lib.count_one _ _
 rw[h2] at h1 ⊢
 rw[qaa,qaa] at h1
 have h3:Lib.splitK [u8 c] 0 ((s.map u8).count (u8 c)) (s.map u8)=cut8 (u8 c) (s.map u8):=qlH _ _
 have h4:([c].map fun n=>UInt8.ofNat n.toNat)=[u8 c]:=rfl
 have h5:(s.map fun n=>UInt8.ofNat n.toNat)=s.map u8:=rfl
 rw[h4,h5,h3] at h1
 rw[← quQ hc s hs,← h1,qCG]
 rfl
def pre (w:qD0):List (qD0)→List (qD0)
 | []=>[w]
 | h::r=>(w++h)::r
def dcI (n:Int):qD0:=if n<10 then [48+n] else if n<100 then [48+n/10,48+n%10] else [48+n/100,48+n/10%10,48+n%10]
theorem dg1 {u:Nat}(h:u<10):Lib.decDigits u=[UInt8.ofNat (48+u)]:=by
 unfold Lib.decDigits
 grind
theorem dg2 {u:Nat}(h:¬ u<10):Lib.decDigits u=Lib.decDigits (u/10)++[UInt8.ofNat (48+u%10)]:=by
 rw[Lib.decDigits,dif_neg h]
theorem qqa {u:Nat}(h:u<10):toI [UInt8.ofNat (48+u)]=[48+(u:Int)]:=by
 have:((48+u)%256:Nat)=48+u:=by omega
 simp[toI,this]
theorem qs7 (a b:List UInt8):toI (a++b)=toI a++toI b:=by simp[toI]
theorem qAP {n:Int}(h:0≤n∧n<1000):toI (Lib.decDigits n.toNat)=dcI n:=by
 unfold dcI
 by_cases h1:n<10
 ·grind [dg1,qqa]
 ·rw[if_neg h1,dg2 (by omega),qs7,qqa (by omega)]
  by_cases h2:n<100
  ·rw[if_pos h2,dg1 (by omega),qqa (by omega)]
   grind
  ·rw[if_neg h2,dg2 (by omega),qs7,qqa (by omega),dg1 (by omega),qqa (by omega)]
   grind
theorem quo10 {n:Int}(h:0≤n∧n<1000):iquo .i64 n 10=n/10:=by
 have h1:n.tdiv 10=n/10:=Int.tdiv_eq_ediv_of_nonneg h.1
 unfold iquo
 rw[h1]
 exact yb (by omega) (by omega)
theorem rem10 {n:Int}(h:0≤n∧n<1000):irem n 10=n%10:=by
 unfold irem
 exact Int.tmod_eq_emod_of_nonneg h.1
theorem qqG {n:Int}{acc:qD0}{rec:(Int×qD0)→Option (qD0)}(h:0≤n∧n<1000)(ha:acc.length≤10):vz F rec n acc=if n/10=0 then some ((48+n%10)::acc) else rec (n/10,(48+n%10)::acc):=by
 unfold vz
 rw[quo10 h,rem10 h,zb (by omega) (by omega),show iconv .u8 (48+n%10)=48+n%10 from qta (by omega) (by omega),kG (by simp;omega)]
 simp only[qBi,qCb,qBF,beq_iff_eq]
theorem qhz {n:Int}(hF:10≤F)(h:0≤n∧n<1000):je F n=some (dcI n):=by
 unfold je
 obtain ⟨k,rfl⟩:∃ k,F=k+3:=⟨F-3,by omega⟩
 show vz (k+3) (jR (k+3) (k+2)) n []=_
 rw[qqG h (by simp)]
 unfold dcI
 by_cases h1:n<10
 ·rw[if_pos (by omega),if_pos h1]
  congr 2;omega
 ·rw[if_neg (by omega),if_neg h1]
  show vz (k+3) (jR (k+3) (k+1)) (n/10) _=_
  rw[qqG (by omega) (by simp)]
  by_cases h2:n<100
  ·rw[if_pos (by omega),if_pos h2]
   congr 2;omega
  ·rw[if_neg (by omega),if_neg h2]
   show vz (k+3) (jR (k+3) k) (n/10/10) _=_
   rw[qqG (by omega) (by simp),if_pos (by omega)]
   congr 2;omega
theorem qzI:∀ n:Fin 1000,atoiE (dcI (n.val:Int))=some ((n.val:Int),true):=by decide +kernel
theorem qxz {n:Int}(h:0≤n∧n<1000):atoiE (dcI n)=some (n,true):=by
 obtain ⟨k,rfl⟩:=qBm h.1
 exact qzI ⟨k,by omega⟩
theorem qiX {n:Int}(h:0≤n∧n<1000):itoaC n=some (dcI n):=by
 unfold itoaC
 rw[if_pos (by omega),← qAP h]
 unfold Lib.itoa
 rw[if_neg (by omega)]
 rfl
theorem qip {n:Int}(_h:0≤n∧n<1000):0<(dcI n).length∧(dcI n).length≤3:=by
 grind [dcI]
theorem quT {n x:Int}(h:0≤n∧n<1000)(hx:x∈dcI n):48≤x∧x≤57:=by
 unfold dcI at hx
 split at hx
 ·simp at hx;omega
 ·split at hx <;> simp at hx <;> omega
theorem qAO {n:Int}(h:0≤n∧n<1000):By (dcI n):=fun x hx=>by have:=quT h hx;omega
theorem qAN {n:Int}(h:0≤n∧n<1000):(32:Int)∉dcI n:=fun hx=>by have:=quT h hx;omega
theorem qtr {w s:qD0}(h:(32:Int)∉w):cutI 32 (w++32::s)=w::cutI 32 s:=by
 induction w with
 | nil=>rfl
 | cons x t ih =>
  simp only[qBp,not_or] at h
  rw[qCb,qmA,if_neg (fun e=>h.1 e.symm),ih h.2]
theorem quR {w:qD0}(h:(32:Int)∉w):cutI 32 w=[w]:=by
 induction w with
 | nil=>rfl
 | cons x t ih =>
  simp only[qBp,not_or] at h
  rw[qmA,if_neg (fun e=>h.1 e.symm),ih h.2]
theorem qnA (x:qD0):(bstr x == bstr x)=true:=by rw[← qqv];simp
theorem qum {N:Int}{ws:List (qD0)}{ns:qD0}{i:Nat}{n:Int}(hn:0≤n∧n<1000)(hw:ws[i]?=some (dcI n))(hi:i≤10)(hl:ns.length≤10) :
  zG F N ws (k+1) ((i:Int),ns)=zG F N ws k (((i+1:Nat):Int),ns++[n]):=by
 show yB F N ws (zG F N ws k) (i:Int) ns=_
 unfold yB
 have hlt:=(qBC.1 hw).1
 rw[if_pos (decide_eq_true (by omega)),qo,hw]
 simp only[qBi]
 rw[qxz hn]
 simp only[qBi]
 have h3:=qip hn
 rw[if_neg (by simp;omega),qiX hn]
 simp only[qBi]
 rw[qnA]
 unfold vP
 rw[if_neg (by simp),kG (by simp;omega)]
 simp only[qBi]
 rw[zb (by omega) (by omega)]
 congr 1
theorem qw2 {N:Int}{ws:List (qD0)}{ns:qD0}:zG F N ws (k+1) ((ws.length:Int),ns)=some (((ws.length:Int) == N),ns):=by
 show yB F N ws (zG F N ws k) (ws.length:Int) ns=_
 unfold yB
 rw[if_neg (by simp)]
 rfl
theorem qr1 {F:Nat}{g:List (qD0)}{B l K:Int}(hg:Gr g):∀ (k i:Nat) (T:List (qD0)),g.length<k+i→i≤g.length→T.length=g.length→T.take i=g.take i →
  qfP F g B l K k ((i:Int),T)=some (g,B,l,K)
 | 0,i,_,h,hi,_,_=>by omega
 | k+1,i,T,h,hi,hT,ht=>by
  show qfN F g B l K (qfP F g B l K k) (i:Int) T=_
  unfold qfN
  have hl:=hg.1
  by_cases hlt:i<g.length
  ·rw[if_pos (decide_eq_true (by omega)),qo,qBk hlt]
   simp only[qBi]
   rw[qo,qBk (by omega)]
   simp only[qBi]
   have hr:=qgI hg (qBE hlt)
   unfold kE lett
   rw[kG (by grind)]
   simp only[qBi,qBF]
   rw[zb (by omega) (by omega)]
   refine qr1 hg k (i+1) _ (by omega) (by omega) (by grind) ?_
   rw[qBo,qbV (by simp_all),qbV hlt,List.take_set_of_le (qBw i),ht]
   simp
  ·rw[if_neg (by simp_all)]
   have e:i=g.length:=by omega
   subst e
   rw[qCr (by omega),qCr (qBw _)] at ht
   subst ht
   rfl
theorem qgh (hF:200≤F)(hg:Gr g):qe3 F g B l K=some (g,B,l,K):=by
 unfold qe3 qfO
 have:=hg.1
 rw[qvz (by omega)]
 simp only[qBi]
 exact qr1 hg F 0 _ (by omega) (by omega) (qhO _ _) rfl
theorem qk6 {e:Int}(hF:1000≤F)(he:∀ F,vr F B l K=some e):yP F g B l K=some (if gchk g≠0 then gchk g else e):=by
 grind [yP,qa0]
theorem qqw (n:Nat):qdJ (n+400)=some true:=by kernel_rfl
theorem qy0 {s:qD0}(h:yP F g B l K=some 0):vY F g B l K s=zH F g B l K s:=by
 unfold vY
 rw[h]
 simp only[qBi]
 rw[if_neg (by simp)]
 cases zH F g B l K s <;> rfl
theorem qzL {e:Int}{s:qD0}(h:yP F g B l K=some e)(he:e≠0):vY F g B l K s=some ([],0,0,0,[],e):=by
 grind [vY]
theorem qeQ {n s:qD0}:qcn F g B l K n s=some ():=rfl
def dkE (e:Int)(g:List (qD0))(B l K:Int)(s:qD0):List (qD0)×Int×Int×Int×qD0×Int :=
 if e≠0 then ([],0,0,0,[],e) else (g,B,l,K,s,0)
theorem qjK {e:Int}{n s:qD0}:qy F e g B l K n s=some (dkE e g B l K s):=by
 grind [qy,dkE]
def Rch (g:List (qD0))(x y:Nat):Prop:=∃ k,Wk g k x y
theorem qhu (g:List (qD0))(x:Nat):Rch g x x:=⟨0,rfl⟩
theorem qac {z:Nat}:Rch g x y→Rch g y z→Rch g x z:=fun ⟨_,h1⟩ ⟨_,h2⟩=>⟨_,qrE h1 h2⟩
theorem qkz (h:Ld g x y):Rch g x y:=⟨1,qw9 h⟩
def Sc (g:List (qD0))(x y:Nat):Prop:=Rch g x y∧Rch g y x
theorem qoa (h:Sc g x y):Sc g y x:=⟨h.2,h.1⟩
theorem qjf {z:Nat}(h:Sc g x y)(h':Sc g y z):Sc g x z:=⟨qac h.1 h'.1,qac h'.2 h.2⟩
theorem qyg (g:List (qD0))(x:Nat):Sc g x x:=⟨qhu g x,qhu g x⟩
structure Wf (g:List (qD0)) (G:Nat→Prop) (cm:Nat→Nat) (op:List Nat) (pt:Nat→Int) (clk:Nat):Prop where
 clk_le:∀ x,cm x≤clk
 op_iff:∀ x,x∈op↔(cm x≠0∧pt x<0)
 op_pw:op.Pairwise fun a b=>cm a<cm b
 gop:∀ x,G x→x∈op
 blk:∀ x,cm x≠0→¬ G x→∀ y,Ld g x y→cm y≠0
 ass:∀ x,0≤pt x→cm x≠0∧Sc g x (pt x).toNat∧∀ y,Sc g x y→pt y=pt x∧pt x≤(y:Int)
 rch:∀ x,x∈op→∀ y,y∈op→cm x≤cm y→Rch g x y
 gry:∀ y,y∈op→∃ x,G x∧cm x≤cm y∧Rch g y x
 inN:∀ x,cm x≠0→x<g.length
structure Vp (g:List (qD0)) (G:Nat→Prop) (n:Nat) (cm:Nat→Nat) (op:List Nat) (pt:Nat→Int) (clk:Nat) (cm':Nat→Nat) (op':List Nat) (pt':Nat→Int) (clk' l:Nat):Prop where
 wf:Wf g G cm' op' pt' clk'
 old:∀ x,cm x≠0→cm' x=cm x
 pold:∀ x,cm x≠0→pt' x=pt x
 opx:∃ new,op'=op++new∧∀ x,x∈new→cm x=0
 vis:cm' n≠0
 clk_le:clk≤clk'
 newer:∀ x,cm x=0→cm' x≠0→clk<cm' x
 low_le:l≤cm' n
 low:(n∈op'∧∃ y,y∈op∧cm y=l∧Rch g n y)∨(n∉op'∧l=cm' n)
 low2:∀ x,x∈op'→cm x=0→∀ y,y∈op→Ld g x y→l≤cm y
structure Lp (g:List (qD0)) (G:Nat→Prop) (n:Nat) (cm0:Nat→Nat) (op0:List Nat) (pt0:Nat→Int) (clk0:Nat) (S:Nat→Prop) (cm:Nat→Nat) (op:List Nat) (pt:Nat→Int) (clk l:Nat):Prop where
 wf:Wf g (fun x=>G x∨x=n) cm op pt clk
 g0:∀ x,G x→x∈op0
 old:∀ x,cm0 x≠0→cm x=cm0 x
 pold:∀ x,cm0 x≠0→pt x=pt0 x
 new0:cm0 n=0
 clk_le:clk0≤clk
 newer:∀ x,cm0 x=0→cm x≠0→clk0<cm x
 opx:∃ new,op=op0++n::new∧∀ x,x∈new→cm0 x=0
 op0v:∀ x,x∈op0→cm0 x≠0
 gry0:∀ y,y∈op0→∃ x,G x∧cm0 x≤cm0 y∧Rch g y x
 low_le:l≤cm n
 low:∃ y,y∈op∧cm y=l∧Rch g n y
 low2:∀ x,x∈op→cm0 x=0→x≠n→∀ y,y∈op0→Ld g x y→l≤cm y
 low3:∀ y,S y→cm y≠0∧(y∈op0→l≤cm y)
def upd (f:Nat→Nat)(n v:Nat):Nat→Nat:=fun x=>if x=n then v else f x
theorem Wf.enter {G : Nat → Prop}{cm : Nat → Nat}{op : List Nat}{pt : Nat → Int}{n:Nat}(h : Wf g G cm op pt clk)(hn : cm n = 0)(hN : n < g.length)(hG : ∀ x, G x → Rch g x n) :
    Lp g G n cm op pt clk (fun _ => False) (upd cm n (clk + 1)) (op ++ [n]) pt (clk + 1) (clk + 1) := by
  have hpn : pt n < 0 := by
    by_cases hc : 0 ≤ pt n
    · exact absurd hn (h.ass n hc).1
    omega
  have hnop : n ∉ op := fun hm => ((h.op_iff n).1 hm).1 hn
  have hopne : ∀ x, x ∈ op → x ≠ n := fun x hx e => hnop (e ▸ hx)
  have un : upd cm n (clk + 1) n = clk + 1 := by unfold upd; simp
  have uo : ∀ x, x ≠ n → upd cm n (clk + 1) x = cm x := fun x hx => by grind [upd]
  have hg0 : ∀ x, G x → x ∈ op := h.gop
  have ton : ∀ x, x ∈ op → Rch g x n := fun x hx => by
    obtain ⟨z, hz, _, hr⟩ := h.gry x hx
    grind [qac]
  refine { wf := ?_, g0 := hg0, old := fun x hx => uo x (fun e => hx (e ▸ hn)), pold := fun x _ => rfl, new0 := hn, clk_le := Nat.le_succ _, newer := fun x hx hx' => ?_, opx := ⟨[], rfl, fun x hx => by grind⟩,
           op0v := fun x hx => ((h.op_iff x).1 hx).1, gry0 := h.gry, low_le := by omega, low := ⟨n, by simp, un, qhu g n⟩, low2 := ?_, low3 := fun y hy => hy.elim }
  · refine { clk_le := fun x => ?_, op_iff := fun x => ?_, op_pw := ?_, gop := fun x hx => ?_, blk := fun x hx hg y hy => ?_, ass := fun x hx => ?_, rch := fun x hx y hy hxy => ?_, gry := fun y hy => ?_, inN := fun x hx => ?_ }
    · by_cases e : x = n
      · simp_all
      · rw [uo x e]; exact Nat.le_succ_of_le (h.clk_le x)
    · rw [qBn, qBD]
      by_cases e : x = n
      · simp_all
      · rw [uo x e, ← h.op_iff x]; simp_all
    · rw [qCM]
      refine ⟨h.op_pw.imp_of_mem fun {a b} ha hb hab => by simp_all, by simp, fun a ha b hb => ?_⟩
      rw [qBD] at hb
      rw [hb, un, uo a (hopne a ha)]
      have := h.clk_le a; omega
    · grind
    · have hxn : x ≠ n := fun e => hg (.inr e)
      rw [uo x hxn] at hx
      by_cases e : y = n
      · simp_all
      · rw [uo y e]; exact h.blk x hx (fun hh => hg (.inl hh)) y hy
    · have := h.ass x hx
      grind
    · rw [qBn, qBD] at hx hy
      rcases hx with hx | hx
      · rcases hy with hy | hy
        · rw [uo x (hopne x hx), uo y (hopne y hy)] at hxy
          exact h.rch x hx y hy hxy
        simp_all
      · rcases hy with hy | hy
        · rw [hx, un, uo y (hopne y hy)] at hxy
          have := h.clk_le y; omega
        grind [qhu]
    · rw [qBn, qBD] at hy
      rcases hy with hy | hy
      · obtain ⟨z, hz, h1, h2⟩ := h.gry y hy
        grind
      · exact ⟨n, .inr rfl, by simp_all, by grind [qhu]⟩
    · by_cases e : x = n
      · omega
      · rw [uo x e] at hx; exact h.inN x hx
  · grind
  · intro x hx hx0 hxn
    rw [qBn, qBD] at hx
    rcases hx with hx | hx
    · exact absurd hx0 ((h.op_iff x).1 hx).1
    omega
theorem Lp.nmem {G:Nat→Prop}{n:Nat}{S:Nat→Prop}{op:List Nat}{pt:Nat→Int}{l:Nat}(h:Lp g G n cm0 op0 pt0 clk0 S cm op pt clk l):n∈op:=by
 obtain ⟨new,e,_⟩:=h.opx
 simp_all
theorem Lp.op0m {G:Nat→Prop}{n:Nat}{S:Nat→Prop}{op:List Nat}{pt:Nat→Int}{l:Nat}(h:Lp g G n cm0 op0 pt0 clk0 S cm op pt clk l)(hx:x∈op0):x∈op:=by
 obtain ⟨new,e,_⟩:=h.opx
 simp_all
theorem Lp.op0n {G:Nat→Prop}{n:Nat}{S:Nat→Prop}{op:List Nat}{pt:Nat→Int}{l:Nat}(h:Lp g G n cm0 op0 pt0 clk0 S cm op pt clk l)(hx:x∈op0):cm x<cm n:=by
 obtain ⟨new,e,_⟩:=h.opx
 have:=h.wf.op_pw
 simp_all [qCM]
theorem Lp.white {G : Nat → Prop}{n : Nat}{cm0 : Nat → Nat}{pt0 : Nat → Int}{S : Nat → Prop}{cm : Nat → Nat}{op : List Nat}{pt : Nat → Int}{l:Nat}(h : Lp g G n cm0 op0 pt0 clk0 S cm op pt clk l){to : Nat}(hl : Ld g n to)(hto : cm to = 0){cm' : Nat → Nat}{op' : List Nat}{pt' : Nat → Int}{clk' l2 : Nat}(hv : Vp g (fun x => G x ∨ x = n) to cm op pt clk cm' op' pt' clk' l2) : Lp g G n cm0 op0 pt0 clk0 (fun x => S x ∨ x = to) cm' op' pt' clk' (min l l2) := by
  have hvis : ∀ x, x ∈ op → cm x ≠ 0 := fun x hx => ((h.wf.op_iff x).1 hx).1
  have hc0 : ∀ x, cm0 x ≠ 0 → cm x ≠ 0 := fun x hx => by rw [h.old x hx]; omega
  obtain ⟨new, e1, e2⟩ := h.opx
  obtain ⟨new2, e3, e4⟩ := hv.opx
  have hsub : ∀ x, x ∈ op → x ∈ op' := fun x hx => by grind
  have hz : ∀ x, cm x = 0 → cm0 x = 0 := fun x hx => qDc fun hc => hc0 x hc hx
  have hn : cm' n = cm n := hv.old n (hvis n h.nmem)
  have hm : ∀ a b c : Nat, min a b ≤ c ↔ a ≤ c ∨ b ≤ c := fun a b c => by omega
  have hvv : ∀ x, cm x ≠ 0 → cm' x ≠ 0 := fun x hx => by rw [hv.old x hx]; omega
  refine { wf := hv.wf, g0 := h.g0, old := fun x hx => by rw [hv.old x (hc0 x hx)]; exact h.old x hx, pold := fun x hx => by rw [hv.pold x (hc0 x hx)]; exact h.pold x hx, new0 := h.new0,
           clk_le := qB5 h.clk_le hv.clk_le, newer := fun x hx hx' => ?_,
           opx := ⟨new ++ new2, by simp_all, fun x hx => ?_⟩, op0v := h.op0v, gry0 := h.gry0, low_le := ?_, low := ?_, low2 := fun x hx hx0 hxn y hy hxy => ?_, low3 := fun y hy => ?_ }
  · by_cases hc : cm x = 0
    · have := hv.newer x hc hx'
      have := h.clk_le; omega
    · rw [hv.old x hc]; exact h.newer x hx hc
  · grind
  · rw [hn, hm]; exact .inl h.low_le
  · by_cases hc : l ≤ l2
    · obtain ⟨y, h1, h2, h3⟩ := h.low
      exact ⟨y, hsub y h1, by rw [hv.old y (hvis y h1), h2]; omega, h3⟩
    · rcases hv.low with ⟨_, y, h1, h2, h3⟩ | ⟨h1, h2⟩
      · exact ⟨y, hsub y h1, by rw [hv.old y (hvis y h1), h2]; omega, qac (qkz hl) h3⟩
      · exfalso
        have a := hv.newer to hto hv.vis
        have b := h.wf.clk_le n
        have c := h.low_le
        omega
  · rw [hv.old y (hvis y (h.op0m hy)), hm]
    by_cases hc : cm x = 0
    · exact .inr (hv.low2 x hx hc y (h.op0m hy) hxy)
    · refine .inl (h.low2 x ?_ hx0 hxn y hy hxy)
      grind
  · rw [hm]
    rcases hy with hy | hy
    · refine ⟨hvv y (h.low3 y hy).1, fun h0 => .inl ?_⟩
      rw [hv.old y (h.low3 y hy).1]; exact (h.low3 y hy).2 h0
    · subst hy
      exact ⟨hv.vis, fun h0 => absurd hto (hc0 y (h.op0v y h0))⟩
theorem Lp.open {G:Nat→Prop}{n:Nat}{S:Nat→Prop}{op:List Nat}{pt:Nat→Int}{l:Nat}(h:Lp g G n cm0 op0 pt0 clk0 S cm op pt clk l){to:Nat}(hl:Ld g n to)(hto:cm to≠0)(hp:pt to<0) :
  Lp g G n cm0 op0 pt0 clk0 (fun x=>S x∨x=to) cm op pt clk (min l (cm to)):=by
 have hm:∀ a b c:Nat,min a b≤c↔a≤c∨b≤c:=fun a b c=>by omega
 refine { h with low_le:=?_,low:=?_,low2:=fun x hx hx0 hxn y hy hxy=>?_,low3:=fun y hy=>?_ }
 ·rw[hm];exact .inl h.low_le
 ·by_cases hc:l≤cm to
  ·obtain ⟨y,h1,h2,h3⟩:=h.low
   grind
  ·exact ⟨to,(h.wf.op_iff to).2 ⟨hto,hp⟩,by omega,qkz hl⟩
 ·rw[hm];exact .inl (h.low2 x hx hx0 hxn y hy hxy)
 ·rw[hm]
  rcases hy with hy | hy
  ·exact ⟨(h.low3 y hy).1,fun h0=>.inl ((h.low3 y hy).2 h0)⟩
  simp_all
theorem Lp.told {G:Nat→Prop}{n:Nat}{S:Nat→Prop}{op:List Nat}{pt:Nat→Int}{l:Nat}(h:Lp g G n cm0 op0 pt0 clk0 S cm op pt clk l){to:Nat}(hto:cm to≠0)(hp:¬ pt to<0) :
  Lp g G n cm0 op0 pt0 clk0 (fun x=>S x∨x=to) cm op pt clk l:=by
 refine { h with low3:=fun y hy=>?_ }
 rcases hy with hy | hy
 ·exact h.low3 y hy
 ·subst hy
  exact ⟨hto,fun h0=>absurd ((h.wf.op_iff y).1 (h.op0m h0)).2 hp⟩
theorem Lp.stay {G : Nat → Prop}{n : Nat}{cm0 : Nat → Nat}{pt0 : Nat → Int}{S : Nat → Prop}{cm : Nat → Nat}{op : List Nat}{pt : Nat → Int}{l:Nat}(h : Lp g G n cm0 op0 pt0 clk0 S cm op pt clk l)(hS : ∀ y, Ld g n y → S y)(hl : l ≠ cm n) :
    Vp g G n cm0 op0 pt0 clk0 cm op pt clk l := by
  obtain ⟨new, e1, e2⟩ := h.opx
  have hlt : l < cm n := by have := h.low_le; omega
  have hvis : ∀ x, x ∈ op → cm x ≠ 0 := fun x hx => ((h.wf.op_iff x).1 hx).1
  have hback : ∃ y, y ∈ op0 ∧ cm y = l ∧ Rch g n y := by
    obtain ⟨y, h1, h2, h3⟩ := h.low
    refine ⟨y, ?_, h2, h3⟩
    rw [e1] at h1
    rcases qBn.1 h1 with h1 | h1
    · omega
    · exfalso
      have hpw := h.wf.op_pw
      grind [qB0]
  obtain ⟨y0, hy0, hy1, hy2⟩ := hback
  have hcm0 : ∀ x, x ∈ op0 → cm x = cm0 x := fun x hx => h.old x (h.op0v x hx)
  refine { wf := { h.wf with gop := fun x hx => h.wf.gop x (.inl hx), blk := fun x hx hg y hy => ?_, gry := fun y hy => ?_ }, old := h.old, pold := h.pold,
           opx := ⟨n :: new, e1, fun x hx => (qBp.1 hx).elim (fun e => e ▸ h.new0) (e2 x)⟩, vis := hvis n h.nmem, clk_le := h.clk_le, newer := h.newer, low_le := h.low_le, low := .inl ⟨h.nmem, y0, hy0, by simp_all, hy2⟩, low2 := fun x hx hx0 y hy hxy => ?_ }
  · by_cases e : x = n
    · subst e; exact (h.low3 y (hS y hy)).1
    · exact h.wf.blk x hx (fun hh => hh.elim hg e) y hy
  · obtain ⟨x, hx, h1, h2⟩ := h.wf.gry y hy
    rcases hx with hx | hx
    · grind
    · subst hx
      obtain ⟨z, hz, h3, h4⟩ := h.gry0 y0 hy0
      refine ⟨z, hz, ?_, qac h2 (qac hy2 h4)⟩
      rw [hcm0 z (h.g0 z hz)]
      grind
  · rw [← hcm0 y hy]
    by_cases e : x = n
    · subst e; exact (h.low3 y (hS y hxy)).2 hy
    · exact h.low2 x hx hx0 e y hy hxy
theorem Lp.close {G : Nat → Prop}{n : Nat}{cm0 : Nat → Nat}{pt0 : Nat → Int}{S : Nat → Prop}{cm : Nat → Nat}{op : List Nat}{pt : Nat → Int}{l:Nat}(h : Lp g G n cm0 op0 pt0 clk0 S cm op pt clk l)(hS : ∀ y, Ld g n y → S y)(hl : l = cm n){C : List Nat}(hC : op = op0 ++ C)(hn : n ∈ C)(hC0 : ∀ x, x ∈ C → cm0 x = 0)(hCn : ∀ x, x ∈ C → cm n ≤ cm x){least : Nat}(hm : least ∈ C)(hle : ∀ y, y ∈ C → least ≤ y) :
    Vp g G n cm0 op0 pt0 clk0 cm op0 (fun x => if x ∈ C then (least : Int) else pt x) clk l := by
  have hvis : ∀ x, x ∈ op → cm x ≠ 0 := fun x hx => ((h.wf.op_iff x).1 hx).1
  have hopen : ∀ x, x ∈ op → pt x < 0 := fun x hx => ((h.wf.op_iff x).1 hx).2
  have hop : ∀ x, x ∈ op ↔ x ∈ op0 ∨ x ∈ C := fun x => by simp_all
  have hcm0 : ∀ x, x ∈ op0 → cm x = cm0 x := fun x hx => h.old x (h.op0v x hx)
  have hdis : ∀ x, x ∈ C → x ∉ op0 := fun x hx hx0 => h.op0v x hx0 (hC0 x hx)
  have hC1 : ∀ y, y ∈ C → Sc g n y := by
    intro y hy
    have hyo := (hop y).2 (.inr hy)
    refine ⟨h.wf.rch n h.nmem y hyo (hCn y hy), ?_⟩
    obtain ⟨z, hz, h1, h2⟩ := h.wf.gry y hyo
    rcases hz with hz | hz
    · have hz0 := h.g0 z hz
      exact qac h2 (h.wf.rch z (h.op0m hz0) n h.nmem (Nat.le_of_lt (h.op0n hz0)))
    simp_all
  have hC2 : ∀ k x y, Wk g k x y → x ∈ C → Rch g y n → y ∈ C := by
    intro k
    induction k with
    | zero => intro x y hw hx _; exact (show x = y from hw) ▸ hx
    | succ k ih =>
      rintro x y ⟨u, hxu, huy⟩ hx hyn
      refine ih u y huy ?_ hyn
      have hun : Rch g u n := qac ⟨k, huy⟩ hyn
      have hxo := (hop x).2 (.inr hx)
      have huv : cm u ≠ 0 := by
        by_cases e : x = n
        · subst e; exact (h.low3 u (hS u hxu)).1
        · refine h.wf.blk x (hvis x hxo) (fun hh => ?_) u hxu
          rcases hh with hh | hh
          · exact hdis x hx (h.g0 x hh)
          omega
      have hup : pt u < 0 := by
        refine qDc fun hc => ?_
        have ha := h.wf.ass u (by omega)
        have := (ha.2.2 n ⟨hun, qac (hC1 x hx).1 (qkz hxu)⟩).1
        grind
      rcases (hop u).1 ((h.wf.op_iff u).2 ⟨huv, hup⟩) with hu0 | hu0
      · exfalso
        have hlt := h.op0n hu0
        by_cases e : x = n
        · subst e
          have := (h.low3 u (hS u hxu)).2 hu0; omega
        · have := h.low2 x hxo (hC0 x hx) e u hu0 hxu; omega
      omega
  have hmax : ∀ x y, x ∈ C → Sc g x y → y ∈ C := fun x y hx hxy => by
    obtain ⟨k, hk⟩ := hxy.1
    exact hC2 k x y hk hx (qac hxy.2 (hC1 x hx).2)
  refine { wf := { clk_le := h.wf.clk_le, op_iff := fun x => ?_, op_pw := ?_, gop := h.g0, blk := fun x hx hg y hy => ?_, ass := fun x hx => ?_, rch := fun x hx y hy => h.wf.rch x (h.op0m hx) y (h.op0m hy), gry := fun y hy => ?_, inN := h.wf.inN },
           old := h.old, pold := fun x hx => ?_, opx := ⟨[], by simp, fun x hx => by grind⟩, vis := hvis n h.nmem, clk_le := h.clk_le, newer := h.newer, low_le := h.low_le, low := .inr ⟨hdis n hn, hl⟩, low2 := fun x hx hx0 => absurd hx0 (h.op0v x hx) }
  · show _ ↔ cm x ≠ 0 ∧ (if x ∈ C then (least : Int) else pt x) < 0
    by_cases hx : x ∈ C
    · simp_all
    · rw [if_neg hx, ← h.wf.op_iff x, hop]
      simp_all
  · have := h.wf.op_pw
    grind
  · by_cases e : x = n
    · subst e; exact (h.low3 y (hS y hy)).1
    · exact h.wf.blk x hx (fun hh => hh.elim hg e) y hy
  · show cm x ≠ 0 ∧ Sc g x (if x ∈ C then (least : Int) else pt x).toNat ∧ ∀ y, Sc g x y → (if y ∈ C then (least : Int) else pt y) = (if x ∈ C then (least : Int) else pt x) ∧ (if x ∈ C then (least : Int) else pt x) ≤ (y : Int)
    have hx : 0 ≤ (if x ∈ C then (least : Int) else pt x) := hx
    by_cases hxC : x ∈ C
    · simp only [if_pos hxC, qBo]
      refine ⟨hvis x ((hop x).2 (.inr hxC)), qjf (qoa (hC1 x hxC)) (hC1 least hm), fun y hy => ?_⟩
      grind
    · rw [if_neg hxC] at hx
      simp only [if_neg hxC]
      have ha := h.wf.ass x hx
      grind
  · obtain ⟨z, hz, h1, h2⟩ := h.gry0 y hy
    exact ⟨z, hz, by rw [hcm0 z (h.g0 z hz), hcm0 y hy]; omega, h2⟩
  · show (if x ∈ C then (least : Int) else pt x) = pt0 x
    rw [if_neg (fun hxC => hx (hC0 x hxC))]
    exact h.pold x hx
theorem Wf.empty {op:List Nat}{pt:Nat→Int}(h:Wf g (fun _=>False) cm op pt clk):op=[]:=by
 cases op with
 | nil=>rfl
 | cons x op =>
  obtain ⟨z,hz,_⟩:=h.gry x (by simp)
  simp_all
structure StrOk (g:List (qD0)) (p:qD0):Prop where
 len:p.length=g.length
 le:∀ t,t<g.length→0≤gD p t∧gD p t≤t
 sc:∀ t,t<g.length→Sc g t (gD p t).toNat
 least:∀ t u,t<g.length→Sc g t u→gD p t≤u
theorem StrOk.uni {q:qD0}(h:StrOk g p)(h':StrOk g q):p=q:=by
 refine qnK (by rw[h.len,h'.len]) fun t ht=>?_
 rw[h.len] at ht
 have a:=h.least t _ ht (h'.sc t ht)
 have b:=h'.least t _ ht (h.sc t ht)
 have c:=h.le t ht
 have d:=h'.le t ht
 omega
theorem StrOk.iff (h:StrOk g p)(hs:s<g.length)(ht:t<g.length):gD p s=gD p t↔Sc g s t:=by
 constructor
 ·intro e
  have a:=h.sc s hs
  rw[e] at a
  exact qjf a (qoa (h.sc t ht))
 ·intro e
  have a:=h.least s _ hs (qjf e (h.sc t ht))
  have b:=h.least t _ ht (qjf (qoa e) (h.sc s hs))
  have c:=h.le s hs
  have d:=h.le t ht
  omega
theorem qqP (a b:Nat):imin (a:Int) (b:Int)=((min a b:Nat):Int):=by grind [imin]
def ti (n:Nat)(f:Nat→Int):qD0:=(qBx n).map f
def tl (n:Nat)(f:Nat→Nat):qD0:=ti n fun i=>(f i:Int)
theorem qf8 (n:Nat)(f:Nat→Int):(ti n f).length=n:=by simp[ti]
theorem qgT {n:Nat}{f:Nat→Int}{i:Nat}(h:i<n):(ti n f)[i]?=some (f i):=by simp[ti,h]
theorem qgU {n:Nat}{f:Nat→Nat}{i:Nat}(h:i<n):(tl n f)[i]?=some (f i:Int):=qgT h
theorem qs6 {n:Nat}{f:Nat→Int}{i:Nat}(h:i<n):gD (ti n f) i=f i:=by grind [gD,qgT]
theorem qot {n:Nat}{f:Nat→Int}{i:Nat}{v:Int}:(ti n f).set i v=ti n fun x=>if x=i then v else f x:=by
 apply qBU
 grind [qf8,qgT]
theorem qjq {n:Nat}{f h:Nat→Int}(e:∀ x,x<n→f x=h x):ti n f=ti n h:=by
 grind [ti,qCR]
theorem qrA {n:Nat}{f:Nat→Nat}{i v:Nat}:(tl n f).set i (v:Int)=tl n (upd f i v):=by
 grind [tl,qot,upd]
theorem qw7 (n:Nat)(v:Int):qBj n v=ti n fun _=>v:=by
 apply qBU
 grind [qgT,qf8]
def wh (n:Nat)(cm:Nat→Nat):Nat:=((qBx n).filter fun x=>decide (cm x=0)).length
theorem qyS {n:Nat}{cm':Nat→Nat}(h:∀ x,cm x≠0→cm' x≠0):wh n cm'≤wh n cm:=by
 unfold wh
 refine qfk (List.nodup_range.filter _:List.Pairwise _ _) fun x hx=>?_
 grind
theorem qAA {n i v:Nat}(hi:i<n)(h0:cm i=0)(hv:v≠0):wh n (upd cm i v)+1≤wh n cm:=by
 unfold wh
 have:=qfk (L:=i::(qBx n).filter fun x=>decide (upd cm i v x=0)) (M:=(qBx n).filter fun x=>decide (cm x=0)) (by
  refine qCi.2 ⟨fun hm=>?_,(List.nodup_range.filter _:List.Pairwise _ _)⟩
  have:=(qCf.1 hm).2
  simp only[decide_eq_true_eq] at this
  unfold upd at this
  simp_all) (fun x hx=>by
  rcases qBp.1 hx with rfl | hx
  ·simp_all
  ·have hx:=qCf.1 hx
   refine qCf.2 ⟨hx.1,?_⟩
   simp only[decide_eq_true_eq] at hx ⊢
   grind [upd])
 omega
theorem Wf.op_len {G:Nat→Prop}{op:List Nat}{pt:Nat→Int}(h:Wf g G cm op pt clk):op.length≤g.length:=by
 have hnd:op.Nodup:=h.op_pw.imp fun {a b} hab e=>by simp_all
 have:=qfk (M:=qBx g.length) hnd fun x hx=>qCh.2 (h.inN x ((h.op_iff x).1 hx).1)
 simp_all
def mn (l:qD0)(m:Int):Int:=l.foldl imin m
theorem qza {F:Nat}{l:qD0}(hm:l.length≤1000000):∀ (k i:Nat) (m:Int),l.length<k+i→i≤l.length→j4 F l k (m,(i:Int))=some (mn (l.drop i) m)
 | 0,_,_,_,_=>by omega
 | k+1,i,m,h,hi=>by
  show j3 F l (j4 F l k) m (i:Int)=_
  unfold j3
  by_cases hlt:i<l.length
  ·rw[if_pos (by simp_all),qo,qBk hlt]
   simp only[qBi]
   rw[qu (by omega),qza hm k (i+1) (imin m l[i]) (by omega) (by omega),qBq hlt]
   rfl
  ·rw[if_neg (by simp_all),qBu (by omega)]
   rfl
theorem qzb:∀ (L:List Nat) (m:Nat),∃ x:Nat,mn (iz L) (m:Int)=(x:Int)∧(x=m∨x∈L)∧x≤m∧∀ y,y∈L→x≤y
 | [],m=>⟨m,rfl,.inl rfl,qBw _,fun y hy=>by simp at hy⟩
 | a::L,m=>by
  obtain ⟨x,h1,h2,h3,h4⟩:=qzb L (min m a)
  refine ⟨x,?_,?_,by omega,fun y hy=>?_⟩
  ·show mn (iz L) (imin (m:Int) (a:Int))=_
   rw[qqP];exact h1
  ·rcases h2 with h2 | h2
   ·by_cases hc:m≤a
    ·left;omega
    ·right;exact qBp.2 (.inl (by omega))
   ·exact .inr (qBp.2 (.inr h2))
  ·rcases qBp.1 hy with rfl | hy
   ·omega
   ·exact h4 y hy
theorem qzZ {C:List Nat}(hF:C.length<F)(hm:C.length≤1000)(h0:C≠[]):∃ x:Nat,jv F (iz C)=some (x:Int)∧x∈C∧∀ y,y∈C→x≤y:=by
 cases C with
 | nil=>exact absurd rfl h0
 | cons a C =>
  obtain ⟨x,h1,h2,h3,h4⟩:=qzb C a
  refine ⟨x,?_,?_,fun y hy=>?_⟩
  ·unfold jv
   rw[if_neg (by simp[iz];omega)]
   have e0:idx (iz (a::C)) 0=some (a:Int):=rfl
   rw[e0]
   simp only[qBi]
   have:=qza (F:=F) (l:=iz (a::C)) (by rw[qeC];omega) F 1 (a:Int) (by rw[qeC];omega) (by simp[iz])
   rw[show ((1:Nat):Int)=1 from rfl] at this
   rw[this]
   have e:(iz (a::C)).drop 1=iz C:=rfl
   rw[e,h1]
  ·rcases h2 with h2 | h2
   ·rw[h2];simp
   ·exact qBp.2 (.inr h2)
  ·rcases qBp.1 hy with rfl | hy
   ·exact h3
   ·exact h4 y hy
theorem qnQ {F:Nat}{l:qD0}{v:Int}{p:Nat}(hm:l.length≤1000000)(hp:l[p]?=some v)(hno:∀ j,j<p→l[j]?≠some v):∀ (k i:Nat),l.length<k+i→i≤p→kL F l v k (i:Int)=some (p:Int)
 | 0,i,h,hi=>by
  grind
 | k+1,i,h,hi=>by
  have hpl:=(qBC.1 hp).1
  show kK F l v (kL F l v k) (i:Int)=_
  unfold kK
  rw[if_pos (by grind),qo,qBk (by omega)]
  simp only[qBi]
  by_cases e:i=p
  ·simp_all
  ·have:=hno i (by omega)
   rw[qBk (by omega)] at this
   rw[if_neg (by grind),qu (by omega)]
   exact qnQ hm hp hno k (i+1) (by omega) (by omega)
theorem qrX {F n:Nat}{cmL lwL op:qD0}{C:List Nat}{i:Nat}{pt:Nat→Int}{clk least:Int}(hop:op.drop i=iz C)(hi:i≤op.length)(hm:op.length≤1000)(hC:∀ x,x∈C→x<n):∀ (k j:Nat),C.length<k+j→j≤C.length →
  jH F cmL lwL op clk (i:Int) least k ((j:Int),ti n fun x=>if x∈C.take j then least else pt x)=some (cmL,lwL,op.take i,ti n (fun x=>if x∈C then least else pt x),clk)
 | 0,_,_,_=>by omega
 | k+1,j,h,hj=>by
  have hCl:C.length=op.length-i:=by
   have:=congrArg List.length hop
   grind [qeC]
  show jF F cmL lwL op clk (i:Int) least (jH F cmL lwL op clk (i:Int) least k) (j:Int) (ti n fun x=>if x∈C.take j then least else pt x)=_
  unfold jF
  rw[qBo]
  by_cases hlt:j<C.length
  ·have hcj:=hC C[j] (qBE hlt)
   rw[if_pos (by grind),hop,qo,qvn hlt]
   simp only[qBi]
   have hgd:C.getD j 0=C[j]:=by grind
   rw[hgd,qo,qgT hcj]
   simp only[qBi]
   unfold lett
   rw[qBo,qot,qu (by omega)]
   have e:(ti n fun x=>if x=C[j] then least else if x∈C.take j then least else pt x)=ti n fun x=>if x∈C.take (j+1) then least else pt x:=by
    refine qjq fun x _=>?_
    rw[qbV hlt]
    grind
   rw[e]
   exact qrX hop hi hm hC k (j+1) (by omega) (by omega)
  ·rw[if_neg (by simp_all)]
   unfold jG
   have es:sub op 0 (i:Int)=some (op.take i):=by
    have:=qlM (l:=op) (i:=0) (j:=i) (by omega) hi
    simp_all
   grind
theorem quH {N n:Nat}{cmL lwL:qD0}{C:List Nat}{pt:Nat→Int}{clk:Int}(hF:2000≤F)(hn:C.head?=some n)(hn0:n∉op0)(hm:(op0++C).length≤1000)(hC:∀ x,x∈C→x<N) :
  ∃ least:Nat,vS F g cmL lwL (iz (op0++C)) (ti N pt) clk (n:Int)=some (cmL,lwL,iz op0,ti N (fun x=>if x∈C then (least:Int) else pt x),clk)∧least∈C∧∀ y,y∈C→least≤y:=by
 obtain ⟨C',rfl⟩:∃ C',C=n::C':=by
  cases C with
  | nil=>grind
  | cons a C'=>simp_all
 have happ:iz (op0++n::C')=iz op0++iz (n::C'):=by simp[iz]
 have hdrop:(iz (op0++n::C')).drop op0.length=iz (n::C'):=by grind [qeC]
 rw[qBr] at hm
 simp only[qBQ] at hm
 obtain ⟨least,e1,e2,e3⟩:=qzZ (F:=F) (C:=n::C') (by grind) (by grind) (by simp)
 refine ⟨least,?_,e2,e3⟩
 have hil:(iz (op0++n::C')).length=op0.length+(C'.length+1):=by grind [qeC]
 have hix:=qnQ (F:=F) (l:=iz (op0++n::C')) (v:=(n:Int)) (p:=op0.length) (by omega) (by rw[happ,List.getElem?_append_right (by grind),qeC,Nat.sub_self];rfl) (fun j hj=>by
  grind [qeC,qvn]) F 0 (by omega) (by omega)
 rw[show ((0:Nat):Int)=0 from rfl] at hix
 unfold vS kF
 rw[hix]
 simp only[qBi]
 unfold chk
 rw[if_pos (by grind),qBo,hdrop,e1]
 simp only[qBi]
 have:=qrX (F:=F) (n:=N) (cmL:=cmL) (lwL:=lwL) (op:=iz (op0++n::C')) (C:=n::C') (i:=op0.length) (pt:=pt) (clk:=clk) (least:=(least:Int)) hdrop (by omega) (by omega) hC F 0 (by grind) (by omega)
 rw[show ((0:Nat):Int)=0 from rfl] at this
 grind [qjq,qeC]
def VOk (g:List (qD0))(V:(List (qD0))→(qD0)→(qD0)→(qD0)→(qD0)→Int→Int→Option (qD0×qD0×qD0×qD0×Int))(d:Nat):Prop :=
 ∀ (G:Nat→Prop) (cm lw:Nat→Nat) (op:List Nat) (pt:Nat→Int) (clk n:Nat),Wf g G cm op pt clk→cm n=0→n<g.length→(∀ x,G x→Rch g x n)→wh g.length cm≤d→clk+wh g.length cm≤1000 →
  ∃ (cm' lw':Nat→Nat) (op':List Nat) (pt':Nat→Int) (clk':Nat),V g (tl g.length cm) (tl g.length lw) (iz op) (ti g.length pt) (clk:Int) (n:Int)=some (tl g.length cm',tl g.length lw',iz op',ti g.length pt',(clk':Int)) ∧
   Vp g G n cm op pt clk cm' op' pt' clk' (lw' n)∧(∀ x,cm x≠0→lw' x=lw x)∧clk'+wh g.length cm'≤clk+wh g.length cm
theorem qkE {F n d clk0:Nat}{g:List (qD0)}{G:Nat→Prop}{cm0 lw0:Nat→Nat}{op0:List Nat}{pt0:Nat→Int}{r:qD0}{V:(List (qD0))→(qD0)→(qD0)→(qD0)→(qD0)→Int→Int→Option (qD0×qD0×qD0×qD0×Int)}(hF:2000≤F)(hg:Gr g)(hV:VOk g V d)(hr:g[n]?=some r)(hGn:∀ x,G x→Rch g x n):∀ (k j:Nat) (cm lw:Nat→Nat) (op:List Nat) (pt:Nat→Int) (clk:Nat),r.length<k+j→j≤r.length →
  Lp g G n cm0 op0 pt0 clk0 (fun y=>(y:Int)∈r.take j) cm op pt clk (lw n)→wh g.length cm≤d→clk+wh g.length cm≤1000→(∀ x,cm0 x≠0→lw x=lw0 x) →
  ∃ (cm' lw':Nat→Nat) (op':List Nat) (pt':Nat→Int) (clk':Nat),za F V g (n:Int) r k ((j:Int),tl g.length cm,tl g.length lw,iz op,ti g.length pt,(clk:Int))=some (tl g.length cm',tl g.length lw',iz op',ti g.length pt',(clk':Int)) ∧
   Vp g G n cm0 op0 pt0 clk0 cm' op' pt' clk' (lw' n)∧(∀ x,cm0 x≠0→lw' x=lw0 x)∧clk'+wh g.length cm'≤clk+wh g.length cm
 | 0,_,_,_,_,_,_,_,_,_,_,_,_=>by omega
 | k+1,j,cm,lw,op,pt,clk,h,hj,hL,hd,hc,hlw=>by
  have h100:=hg.1
  have hrm:=qBl hr
  have hrl:=qgI hg hrm
  have hrx:=(hg.2.1 r hrm).2
  have hnN:n<g.length:=(qBC.1 hr).1
  have hop:=hL.wf.op_len
  have hstep:za F V g (n:Int) r (k+1) ((j:Int),tl g.length cm,tl g.length lw,iz op,ti g.length pt,(clk:Int))=yR F V g (n:Int) r (za F V g (n:Int) r k) (j:Int) (tl g.length cm) (tl g.length lw) (iz op) (ti g.length pt) (clk:Int):=rfl
  rw[hstep]
  unfold yR
  by_cases hlt:j<r.length
  ·have hx:=hrx r[j] (qBE hlt)
   obtain ⟨x,hx1⟩:=qBm hx.1
   have hxN:x<g.length:=by omega
   have hld:Ld g n x:=qjM.2 ⟨r,hr,by grind⟩
   have hS:∀ {S:Nat→Prop} {cm:Nat→Nat} {op:List Nat} {pt:Nat→Int} {clk l:Nat},S=(fun (y:Nat)=>(y:Int)∈r.take j)→Lp g G n cm0 op0 pt0 clk0 (fun y=>S y∨y=x) cm op pt clk l→Lp g G n cm0 op0 pt0 clk0 (fun y=>(y:Int)∈r.take (j+1)) cm op pt clk l:=by
    grind [qbV]
   rw[if_pos (by simp_all),qo,qBk hlt,hx1]
   simp only[qBi]
   rw[qo,qgU hxN]
   simp only[qBi]
   by_cases h0:cm x=0
   ·
    have hR:∀ y,(G y∨y=n)→Rch g y x:=fun y hy=>by
     grind [qac,qkz]
    obtain ⟨cm',lw',op',pt',clk',e1,e2,e3,e4⟩:=hV (fun y=>G y∨y=n) cm lw op pt clk x hL.wf h0 hxN hR hd hc
    rw[if_pos (by grind),e1]
    simp only[qBi]
    rw[qo,qgU hnN]
    simp only[qBi]
    rw[qo,qgU hxN]
    simp only[qBi]
    unfold lett
    rw[qqP,qBo,qrA]
    unfold zA
    rw[qu (by omega)]
    have hncm:cm n≠0:=((hL.wf.op_iff n).1 hL.nmem).1
    have hln:lw' n=lw n:=e3 n hncm
    have hL2:=hS rfl (hL.white hld h0 e2)
    have hwm:wh g.length cm'≤wh g.length cm:=qyS fun y hy=>by rw[e2.old y hy];omega
    have hun:upd lw' n (min (lw' n) (lw' x)) n=min (lw n) (lw' x):=by unfold upd;simp_all
    obtain ⟨cm2,lw2,op2,pt2,clk2,f1,f2,f3,f4⟩:=qkE (lw0:=lw0) hF hg hV hr hGn k (j+1) cm' (upd lw' n (min (lw' n) (lw' x))) op' pt' clk' (by omega) (by omega) (by rw[hun];exact hL2) (by omega) (by omega) (fun y hy=>by
     have hyn:y≠n:=fun e=>hy (e▸hL.new0)
     unfold upd
     rw[if_neg hyn,e3 y (by rw[hL.old y hy];omega)]
     simp_all)
    grind
   ·rw[if_neg (by simp_all),qo,qgT hxN]
    simp only[qBi]
    by_cases hp:pt x<0
    ·rw[if_pos (by grind),qo,qgU hnN]
     simp only[qBi]
     unfold lett
     rw[qqP,qBo,qrA]
     unfold zA
     rw[qu (by omega)]
     have hun:upd lw n (min (lw n) (cm x)) n=min (lw n) (cm x):=by unfold upd;simp
     exact qkE (lw0:=lw0) hF hg hV hr hGn k (j+1) cm (upd lw n (min (lw n) (cm x))) op pt clk (by omega) (by omega) (by rw[hun];exact hS rfl (hL.open hld h0 hp)) hd hc (fun y hy=>by
      have hyn:y≠n:=fun e=>hy (e▸hL.new0)
      grind [upd])
    ·rw[if_neg (by grind)]
     unfold zA
     rw[qu (by omega)]
     exact qkE (lw0:=lw0) hF hg hV hr hGn k (j+1) cm lw op pt clk (by omega) (by omega) (hS rfl (hL.told h0 hp)) hd hc hlw
  ·have hall:∀ y,Ld g n y→(y:Int)∈r.take j:=fun y hy=>by
    obtain ⟨r',hr',hy'⟩:=qjM.1 hy
    grind
   rw[if_neg (by simp_all)]
   unfold jI
   rw[qo,qgU hnN]
   simp only[qBi]
   rw[qo,qgU hnN]
   simp only[qBi]
   by_cases hl:lw n=cm n
   ·obtain ⟨new,o1,o2⟩:=hL.opx
    have hC0:∀ x,x∈n::new→cm0 x=0:=fun x hx=>(qBp.1 hx).elim (fun e=>e▸hL.new0) (o2 x)
    have hCo:∀ x,x∈n::new→x∈op:=fun x hx=>by simp_all
    have hCn:∀ x,x∈n::new→cm n≤cm x:=fun x hx=>by
     rcases qBp.1 hx with e | hx
     ·simp_all
     ·have:=hL.wf.op_pw
      grind [qB0]
    obtain ⟨least,c1,c2,c3⟩:=quH (F:=F) (N:=g.length) (n:=n) (g:=g) (cmL:=tl g.length cm) (lwL:=tl g.length lw) (op0:=op0) (C:=n::new) (pt:=pt) (clk:=(clk:Int)) hF rfl (fun hm=>hL.op0v n hm hL.new0) (by grind) (fun x hx=>hL.wf.inN x ((hL.wf.op_iff x).1 (hCo x hx)).1)
    rw[if_pos (by grind),o1,c1]
    simp only[qBi]
    refine ⟨cm,lw,op0,_,clk,rfl,?_,hlw,qBw _⟩
    exact hL.close hall hl o1 (by simp) hC0 hCn c2 c3
   ·rw[if_neg (by grind)]
    exact ⟨cm,lw,op,pt,clk,rfl,hL.stay hall hl,hlw,qBw _⟩
theorem qqb {g:List (qD0)}(hg:Gr g):∀ (d F:Nat),2001+d≤F→VOk g (qT F) d
 | d,0,hF=>by omega
 | d,F+1,hF=>by
  intro G cm lw op pt clk n hwf hn hN hG hd hc
  have h100:=hg.1
  have hop:=hwf.op_len
  have hr:g[n]?=some g[n]:=qBk hN
  have hrl:=qgI hg (qBE hN)
  have hwu:=qAA (cm:=cm) (v:=clk+1) hN hn (by omega)
  obtain ⟨d',rfl⟩:=Nat.exists_eq_succ_of_ne_zero (show d≠0 by omega)
  have hV:=qqb hg d' F (by omega)
  have hun:upd lw n (clk+1) n=clk+1:=by unfold upd;simp
  have hent:=hwf.enter hn hN hG
  have hL:Lp g G n cm op pt clk (fun y=>(y:Int)∈(g[n]).take 0) (upd cm n (clk+1)) (op++[n]) pt (clk+1) (upd lw n (clk+1) n):=by
   simp_all
  obtain ⟨cm',lw',op',pt',clk',e1,e2,e3,e4⟩:=qkE (F:=F) (lw0:=lw) (by omega) hg hV hr hG F 0 (upd cm n (clk+1)) (upd lw n (clk+1)) (op++[n]) pt (clk+1) (by omega) (by omega) hL (by omega) (by omega) (fun x hx=>by
   grind [upd])
  refine ⟨cm',lw',op',pt',clk',?_,e2,e3,by omega⟩
  rw[← e1]
  show ((idx (tl g.length cm) (n:Int)).bind fun _x33=>((idx (tl g.length lw) (n:Int)).bind fun _x37=>(lett ((tl g.length cm).set ((n:Int)).toNat (iadd .i64 (clk:Int) 1)) fun x41=>(lett ((tl g.length lw).set ((n:Int)).toNat (iadd .i64 (clk:Int) 1)) fun x44=>((app 8796093022208 (iz op) ([(n:Int)]:qD0)).bind fun x49=>((idx g (n:Int)).bind fun x455=>za F (qT F) g (n:Int) x455 F (0,x41,x44,x49,ti g.length pt,iadd .i64 (clk:Int) 1)))))))=_
  rw[qo,qgU hN]
  simp only[qBi]
  grind [qo,qgU,kG,lett,iz,qu,qBo,qrA]
theorem qlG {F:Nat}{g:List (qD0)}(hF:4000≤F)(hg:Gr g):∀ (k s:Nat) (cm lw:Nat→Nat) (pt:Nat→Int) (clk:Nat),g.length<k+s→s≤g.length→Wf g (fun _=>False) cm [] pt clk→clk+wh g.length cm≤1000→(∀ x,x<s→cm x≠0) →
  ∃ p,jw F g k ((s:Int),tl g.length cm,tl g.length lw,([]:qD0),ti g.length pt,(clk:Int))=some p∧StrOk g p
 | 0,_,_,_,_,_,_,_,_,_,_=>by omega
 | k+1,s,cm,lw,pt,clk,h,hs,hwf,hc,hv=>by
  have h100:=hg.1
  have hstep:jw F g (k+1) ((s:Int),tl g.length cm,tl g.length lw,([]:qD0),ti g.length pt,(clk:Int))=qc9 F g (jw F g k) (s:Int) (tl g.length cm) (tl g.length lw) [] (ti g.length pt) (clk:Int):=rfl
  rw[hstep]
  unfold qc9
  by_cases hlt:s<g.length
  ·rw[if_pos (by simp_all),qo,qgU hlt]
   simp only[qBi]
   by_cases h0:cm s=0
   ·have hwl:wh g.length cm≤g.length:=by
     grind [wh]
    obtain ⟨cm',lw',op',pt',clk',e1,e2,e3,e4⟩:=qqb hg g.length F (by omega) (fun _=>False) cm lw [] pt clk s hwf h0 hlt (fun x hx=>hx.elim) hwl hc
    have hop:=e2.wf.empty
    subst hop
    have e1':qT F g (tl g.length cm) (tl g.length lw) [] (ti g.length pt) (clk:Int) (s:Int)=some (tl g.length cm',tl g.length lw',iz [],ti g.length pt',(clk':Int)):=e1
    rw[if_pos (by grind),e1']
    simp only[qBi]
    unfold vH
    rw[qu (by omega)]
    refine qlG hF hg k (s+1) cm' lw' pt' clk' (by omega) (by omega) e2.wf (by omega) fun x hx=>?_
    by_cases e:x=s
    ·rw[e];exact e2.vis
    ·have:=hv x (by omega)
     rw[e2.old x this];omega
   ·rw[if_neg (by simp_all)]
    unfold vH
    rw[qu (by omega)]
    refine qlG hF hg k (s+1) cm lw pt clk (by omega) (by omega) hwf hc fun x hx=>?_
    grind
  ·rw[if_neg (by simp_all)]
   refine ⟨_,rfl,?_⟩
   have hpos:∀ t,t<g.length→0≤pt t:=fun t ht=>by
    have:=hwf.op_iff t
    grind
   refine ⟨qf8 _ _,fun t ht=>?_,fun t ht=>?_,fun t u ht htu=>?_⟩
   ·rw[qs6 ht]
    exact ⟨hpos t ht,((hwf.ass t (hpos t ht)).2.2 t (qyg g t)).2⟩
   ·rw[qs6 ht]
    exact (hwf.ass t (hpos t ht)).2.1
   ·rw[qs6 ht]
    exact ((hwf.ass t (hpos t ht)).2.2 u htu).2
theorem qmY (hF:4000≤F)(hg:Gr g):∃ p,j5 F g=some p∧StrOk g p:=by
 have h100:=hg.1
 unfold j5
 have hmk:mk 17592186044416 (0:Int) (g.length:Int)=some (qBj g.length 0):=by
  grind [mk]
 rw[hmk,qAd (by omega) hg.1]
 simp only[qBi]
 unfold qda
 have hwf:Wf g (fun _=>False) (fun _=>0) [] (fun _=>-1) 0:=by
  refine { clk_le:=fun x=>qBw _,op_iff:=fun x=>by simp,op_pw:=qDC,gop:=fun x hx=>hx.elim,blk:=fun x hx=>absurd rfl hx,ass:=fun x hx=>by omega,rch:=fun x hx=>by simp,gry:=fun x hx=>by grind,inN:=fun x hx=>absurd rfl hx }
 have hwl:wh g.length (fun _=>0)≤g.length:=by
  grind [wh]
 obtain ⟨p,e1,e2⟩:=qlG (F:=F) hF hg F 0 (fun _=>0) (fun _=>0) (fun _=>-1) 0 (by omega) (by omega) hwf (by omega) (fun x hx=>by omega)
 refine ⟨p,?_,e2⟩
 rw[← e1,qw7,qw7]
 rfl
def spartL (g:List (qD0)):qD0:=(j5 4000 g).getD []
theorem qeR (hg:Gr g):StrOk g (spartL g):=by
 obtain ⟨p,h1,h2⟩:=qmY (F:=4000) (qBw _) hg
 grind [spartL]
theorem qtY (hF:4000≤F)(hg:Gr g):j5 F g=some (spartL g):=by
 obtain ⟨p,h1,h2⟩:=qmY hF hg
 rw[h1,h2.uni (qeR hg)]
def spartM (g:List (qD0)):qD0×Int:=if gchk g≠0 then ([],gchk g) else (spartL g,0)
theorem qtU (hF:4000≤F):qc8 F g=some (spartM g):=by
 grind [qc8,spartM,qa0,qtY,jP]
theorem qv0:∀ {A B:qD0},A.Pairwise (·<·)→B.Pairwise (·<·)→(∀ z,z∈A↔z∈B)→A=B
 | [],[],_,_,_=>rfl
 | [],s::B,_,_,h=>by have:=(h s).2 (by simp);simp at this
 | r::A,[],_,_,h=>by have:=(h r).1 (by simp);simp at this
 | r::A,s::B,hA,hB,h=>by
  obtain ⟨fA,pA⟩:=qB0.1 hA
  obtain ⟨fB,pB⟩:=qB0.1 hB
  have hrs:r=s:=by
   rcases qBp.1 ((h r).1 (by simp)) with h1 | h1
   ·exact h1
   ·rcases qBp.1 ((h s).2 (by simp)) with h2 | h2
    ·exact h2.symm
    ·have:=fA s h2;have:=fB r h1;omega
  subst hrs
  congr 1
  refine qv0 pA pB fun x=>⟨fun hx=>?_,fun hx=>?_⟩
  ·rcases qBp.1 ((h x).1 (by simp[hx])) with h1 | h1
   ·subst h1;have:=fA x hx;omega
   ·exact h1
  ·rcases qBp.1 ((h x).2 (by simp[hx])) with h1 | h1
   ·subst h1;have:=fB x hx;omega
   ·exact h1
theorem qxV {x y:Int}:qcG F x y=some (decide (x<y)):=by
 grind [qcG,vX,qba]
theorem qxP {i j:Nat}(h:i+j<1000000000):iconv .i64 (ishr .u64 (iconv .u64 (iadd .i64 (i:Int) (j:Int))) 1)=(((i+j)/2:Nat):Int):=by
 rw[qb0 (by omega)]
 have e1:iconv .u64 ((i+j:Nat):Int)=((i+j:Nat):Int):=jB (by omega) (by omega)
 have e2:=qhB (k:=.u64) (a:=((i+j:Nat):Int)) (m:=1) (by decide)
 rw[show ((1:Nat):Int)=1 from rfl,show (2:Int)^1=2 from rfl] at e2
 rw[e1,e2]
 have e3:((i+j:Nat):Int)/2=(((i+j)/2:Nat):Int):=by omega
 rw[e3]
 exact yb (by omega) (by omega)
theorem qlD {F:Nat}{l:qD0}{v:Int}(hl:l.Pairwise (·<·))(hm:l.length≤100000):∀ (k i j:Nat),j<k+i→i≤j→j≤l.length→(∀ z∈l.take i,z<v)→(∀ z∈l.drop j,v≤z) →
  ∃ p,yd F l v k ((i:Int),(j:Int))=some (p,decide (v∈l))
 | 0,_,_,_,_,_,_,_=>by omega
 | k+1,i,j,h,hij,hj,h1,h2=>by
  show ∃ p,yc F l v (yd F l v k) (i:Int) (j:Int)=_
  unfold yc
  by_cases hlt:i<j
  ·have hh:(i+j)/2<l.length:=by omega
   rw[if_pos (by simp_all)]
   unfold lett
   rw[qxP (by omega)]
   simp only
   rw[qo,qBk hh]
   simp only[qBi]
   rw[qxV]
   simp only[qBi]
   by_cases hc:l[(i+j)/2]<v
   ·rw[decide_eq_true hc,if_pos rfl,qu (by omega)]
    refine qlD hl hm k ((i+j)/2+1) j (by omega) (by omega) hj (fun z hz=>?_) h2
    grind [qCo,qBT]
   ·rw[decide_eq_false hc,if_neg (by simp)]
    refine qlD hl hm k i ((i+j)/2) (by omega) (by omega) (by omega) h1 (fun z hz=>?_)
    obtain ⟨q,hq⟩:=qCo hz
    rw[List.getElem?_drop] at hq
    have hq1:=(qBC.1 hq).1
    rw[qBk hq1] at hq
    simp only[qBs] at hq
    subst hq
    by_cases e:q=0
    ·simp_all
    grind [qBT]
  ·obtain rfl:i=j:=by omega
   rw[if_neg (by simp)]
   unfold yg
   by_cases hi:i<l.length
   ·have hd:l.drop i=l[i]::l.drop (i+1):=qBq hi
    have hmem:v∈l↔l[i]=v:=by
     grind [List.take_append_drop,qBE]
    rw[if_pos (by grind),qo,qBk hi]
    simp only[qBi]
    by_cases he:l[i]=v
    ·rw[if_pos (by grind),decide_eq_true (hmem.2 he)]
     exact ⟨_,rfl⟩
    ·rw[if_neg (by grind),decide_eq_false (fun h=>he (hmem.1 h))]
     unfold qaA
     simp only[qBi,bne_self_eq_false,qBy,if_false]
     exact ⟨_,rfl⟩
   ·rw[if_neg (by simp_all)]
    have hn:v∉l:=by
     grind
    rw[decide_eq_false hn]
    exact ⟨_,rfl⟩
theorem qjX (hF:200000≤F){l:qD0}{v:Int}(hl:l.Pairwise (·<·))(hm:l.length≤100000):∃ p,zl F l v=some (p,decide (v∈l)):=by
 unfold zl
 exact qlD hl hm F 0 l.length (by omega) (by omega) (qBw _) (by simp) (by simp)
def tb:Bool→Int→List Bool→qD0
 | _,_,[]=>[]
 | c,m,b::bs=>if b != c then m::tb b 1 bs else tb c (m+1) bs
theorem qjo (c:Bool)(m:Int)(bs:List Bool):tb c m (c::bs)=tb c (m+1) bs:=by
 show (if c != c then _ else _)=_
 simp
theorem qjp {c b:Bool}(h:b≠c)(m:Int)(bs:List Bool):tb c m (b::bs)=m::tb b 1 bs:=by
 show (if b != c then _ else _)=_
 simp_all
theorem qrz:∀ (c:Bool) (m:Int) (bs:List Bool),(tb c m bs).length≤bs.length
 | _,_,[]=>qBw _
 | c,m,b::bs=>by
  by_cases h:b=c
  ·subst h
   rw[qjo]
   have:=qrz b (m+1) bs
   grind
  ·rw[qjp h,qBQ,qBQ]
   have:=qrz b 1 bs
   omega
def hasB (l:qD0)(x:Int):Bool:=decide (x∈l)
def tbs (fr0 l:qD0):qD0:=tb true 0 (fr0.map (hasB l))
def rst (fr0 l:qD0):qD0:=l.filter fun x=>!hasB fr0 x
theorem qAj {o:qD0}{c b:Bool}{m:Int}(ho:o.length≤1000000)(hm:0≤m∧m≤1000000):qaw F o c m b=some (if b != c then (o++[m],b,1) else (o,c,m+1)):=by
 grind [qaw,vQ,zb,kG]
theorem qjT {F:Nat}(hF:200000≤F){fr0 l o:qD0}(hf:fr0.Pairwise (·<·))(hfm:fr0.length≤300)(hm:l.length≤300):∀ (k i:Nat) (r:qD0),l.length<k+i→i≤l.length→r.length≤i →
  qcj F fr0 l o k (r,(i:Int))=some (o,r++rst fr0 (l.drop i))
 | 0,_,_,_,_,_=>by omega
 | k+1,i,r,h,hi,hr=>by
  show qev F fr0 l o (qcj F fr0 l o k) r (i:Int)=_
  unfold qev
  by_cases hlt:i<l.length
  ·obtain ⟨p,hp⟩:=qjX hF (v:=l[i]) hf (by omega)
   rw[if_pos (by simp_all),qo,qBk hlt,qBq hlt]
   simp only[qBi]
   rw[hp]
   simp only[qBi]
   unfold qci rst
   rw[qC3,qu (by omega)]
   by_cases hc:l[i]∈fr0
   ·rw[if_neg (by grind),if_neg (by simp[hasB,hc])]
    exact qjT hF hf hfm hm k (i+1) r (by omega) (by omega) (by omega)
   ·rw[if_pos (by grind),if_pos (by simp[hasB,hc]),kG (by grind)]
    simp only[qBi]
    rw[qjT hF hf hfm hm k (i+1) _ (by omega) (by omega) (by simp_all),qBt]
    rfl
  grind [qfd,rst]
theorem qq9 {F:Nat}(hF:200000≤F){fr0 l:qD0}(hf:fr0.Pairwise (·<·))(hl:l.Pairwise (·<·))(hfm:fr0.length≤300)(hm:l.length≤300):∀ (k i:Nat) (o:qD0) (c:Bool) (m:Int),fr0.length<k+i→i≤fr0.length→o.length≤i→0≤m∧m≤i →
  qex F fr0 l k ((i:Int),o,c,m)=some (o++tb c m ((fr0.drop i).map (hasB l)),rst fr0 l)
 | 0,_,_,_,_,_,_,_,_=>by omega
 | k+1,i,o,c,m,h,hi,ho,hmm=>by
  show qew F fr0 l (qex F fr0 l k) (i:Int) o c m=_
  unfold qew
  by_cases hlt:i<fr0.length
  ·obtain ⟨p,hp⟩:=qjX hF (v:=fr0[i]) hl (by omega)
   rw[if_pos (by simp_all),qo,qBk hlt,qBq hlt,qB2]
   simp only[qBi]
   rw[hp]
   simp only[qBi]
   rw[qAj (by omega) (by omega)]
   simp only[qBi]
   rw[qu (by omega)]
   have hb:hasB l fr0[i]=decide (fr0[i]∈l):=rfl
   rw[← hb]
   by_cases hc:hasB l fr0[i]=c
   ·rw[if_neg (by grind)]
    simp only
    rw[qq9 hF hf hl hfm hm k (i+1) o c (m+1) (by omega) (by omega) (by omega) (by omega),hc,qjo]
   ·rw[if_pos (by grind)]
    simp only
    rw[qq9 hF hf hl hfm hm k (i+1) _ _ 1 (by omega) (by omega) (by simp_all) (by omega),qjp hc,qBt]
    rfl
  ·rw[if_neg (by simp_all),qBu (by omega)]
   unfold qfc
   have:=qjT hF (o:=o) hf hfm hm F 0 [] (by omega) (by omega) (by simp)
   rw[qB1,qBF] at this
   rw[show ((0:Nat):Int)=0 from rfl] at this
   rw[this]
   simp[tb]
theorem qpc {xs:qD0}(h:xs.Pairwise (·≤·)):∀ m,m≤xs.length→(Go.Lib.compactUpTo xs.toArray m).Pairwise (·<·)∧∀ z,z∈Go.Lib.compactUpTo xs.toArray m↔z∈xs.take m
 | 0,_=>by simp[Go.Lib.compactUpTo]
 | m+1,hm=>by
  obtain ⟨a1,a2⟩:=qpc h m (by omega)
  have hlt:m<xs.length:=by omega
  have hg:xs.toArray[m]! = xs[m]:=by simp_all
  rw[Go.Lib.compactUpTo_succ,hg,qbV hlt]
  have hle:∀ z∈xs.take m,z≤xs[m]:=fun z hz=>by
   obtain ⟨i,hi,rfl⟩:=qDq.1 hz
   grind [qBT]
  by_cases hk:Go.Lib.keeps xs.toArray m=true
  ·rw[if_pos hk]
   refine ⟨qCM.2 ⟨a1,by simp,fun a ha b hb=>?_⟩,fun z=>by grind⟩
   rw[qBD] at hb
   subst hb
   have ha':=(a2 a).1 ha
   have h1:=hle a ha'
   rcases qDz m with h0 | h0
   ·simp_all
   ·rw[qjL h0 hlt] at hk
    have hne:xs[m]≠xs[m-1]:=by grind
    obtain ⟨i,hi,rfl⟩:=qDq.1 ha'
    rw[qB7] at hi
    rw[List.getElem_take] at h1 ⊢
    have h2:xs[i]≤xs[m-1]:=by
     by_cases hi2:i=m-1
     ·simp_all
     ·exact qBT.1 h i (m-1) (by omega) (by omega) (by omega)
    grind [qBT]
  ·rw[if_neg hk,qBV]
   refine ⟨a1,fun z=>?_⟩
   rw[a2,qBn]
   rcases qDz m with h0 | h0
   ·grind [Go.Lib.keeps]
   ·rw[qjL h0 hlt] at hk
    have he:xs[m]=xs[m-1]:=by grind
    constructor
    ·simp_all
    ·rintro (h1 | h1)
     ·omega
     ·rw[qBD] at h1
      rw[h1,he]
      have:m-1<(xs.take m).length:=by grind
      have e:(xs.take m)[m-1]=xs[m-1]:=List.getElem_take
      grind
theorem qqD (h:xs.Pairwise (·≤·)):(Go.Lib.compact xs).Pairwise (·<·)∧∀ z,z∈Go.Lib.compact xs↔z∈xs:=by
 obtain ⟨a1,a2⟩:=qpc h xs.length (qBw _)
 refine ⟨a1,fun z=>?_⟩
 have:=a2 z
 rwa [qCB] at this
def exA (l:List (Int×Int)):List (Int×Int):=l.flatMap fun p=>if p.1≠p.2 then [(p.1,p.2),(p.2,p.1)] else []
theorem qr5 {l:List (Int×Int)}{p:Int×Int}:p∈exA l↔p.1≠p.2∧(p∈l∨(p.2,p.1)∈l):=by
 unfold exA
 grind
theorem qr4 (l:List (Int×Int)):(exA l).length≤2*l.length:=by
 induction l with
 | nil=>simp[exA]
 | cons p l ih =>
  grind [exA]
theorem qqJ {n:Nat}{l:List (Int×Int)}(h:InR n l):InR n (exA l):=fun p hp=>by
 obtain ⟨_,h1 | h1⟩:=qr5.1 hp
 ·exact h p h1
 ·have:=h _ h1;omega
def E (g:List (qD0)):List (Int×Int):=exA (af 0 g)
theorem qmM {F n:Nat}{yy:List (qD0)→(Int×Int)→Option (List (qD0) ⊕ Empty)}(hy:∀ s p,yy s p=qbx F s p.1 p.2):∀ (A acc:List (Int×Int)),InR n A→acc.length+A.length≤1000000 →
  qaI yy A (tab n (exA acc))=some (.inl (tab n (exA (acc++A))))
 | [],acc,_,_=>by rw[qBV];rfl
 | p::A,acc,h,hm=>by
  rw[qBQ] at hm
  obtain ⟨h1,h2,h3,h4⟩:=h p (by simp)
  have hrec:=qmM hy A (acc++[p]) (fun q hq=>h q (by grind)) (by grind)
  rw[qBt] at hrec
  show (yy _ p).bind _=_
  rw[hy]
  unfold qbx
  obtain ⟨a,ha⟩:=qBm h1
  obtain ⟨b,hb⟩:=qBm h3
  have e:p=((a:Int),(b:Int)):=Prod.ext ha hb
  have hex:=qr4 acc
  have hl1:=qhH (exA acc) (a:Int)
  have hl2:=qhH (exA acc) (b:Int)
  subst e
  simp only at *
  by_cases hab:a=b
  ·grind [exA]
  ·have habi:¬ (a:Int)=(b:Int):=by omega
   have e1:exA (acc++[((a:Int),(b:Int))])=exA acc++[((a:Int),(b:Int))]++[((b:Int),(a:Int))]:=by
    grind [exA]
   have e2:rowOf (exA acc++[((a:Int),(b:Int))]) (b:Int)=rowOf (exA acc) (b:Int):=by
    grind [rowOf]
   rw[e1,qlS,qlS,e2] at hrec
   rw[if_pos (by simp_all),qo,qkC (by omega)]
   simp only[qBi]
   rw[qo,qkC (by omega)]
   simp only[qBi,chk,lett]
   rw[if_pos (by grind),kG (by grind)]
   simp only[qBi]
   rw[kG (by grind)]
   simp_all
def tb2 (n:Nat)(f h:Nat→qD0)(i:Nat):List (qD0):=(qBx n).map fun a=>if a<i then f a else h a
theorem qyM (n:Nat)(f h:Nat→qD0)(i:Nat):(tb2 n f h i).length=n:=by simp[tb2]
theorem qyL {n i:Nat}{f h:Nat→qD0}(hi:i<n):(tb2 n f h i)[i]?=some (h i):=by simp[tb2,hi]
theorem qyN {n i:Nat}{f h:Nat→qD0}:(tb2 n f h i).set i (f i)=tb2 n f h (i+1):=by
 apply qBY (by simp[tb2])
 grind [tb2]
theorem qyK {n:Nat}{f h:Nat→qD0}:tb2 n f h n=(qBx n).map f:=by
 apply qBY (by simp[tb2])
 grind [tb2]
theorem qvD {F n:Nat}{T:List (qD0)}{h:Nat→qD0}(hT:T.length=n)(hh:∀ i,(h i).length≤1000000)(hn:n≤1000000):∀ (k i:Nat),n<k+i→i≤n →
  qeZ F T k ((i:Int),tb2 n (fun a=>Go.Lib.compact (srt (h a))) h i)=some ((qBx n).map fun a=>Go.Lib.compact (srt (h a)))
 | 0,_,_,_=>by omega
 | k+1,i,hk,hi=>by
  show qeY F T (qeZ F T k) (i:Int) (tb2 n (fun a=>Go.Lib.compact (srt (h a))) h i)=_
  unfold qeY
  by_cases hlt:i<n
  ·have hrec:=qvD (F:=F) (T:=T) (h:=h) hT hh hn k (i+1) (by omega) (by omega)
   have hhi:=hh i
   have hsl:(srt (h i)).length=(h i).length:=qhI _
   have hcl:=qhk (srt (h i))
   rw[if_pos (by simp_all),qo,qyL hlt]
   simp only[qBi]
   unfold q5
   rw[if_pos (by omega)]
   simp only[qBi,chk,lett,qBo]
   grind [qo,qyM,zy,qu,List.set_set,qyN]
  ·rw[if_neg (by simp_all),show i=n from by omega,qyK]
   rfl
def nr (g:List (qD0)):List (qD0):=(qBx g.length).map fun i=>cols (E g) i g.length
theorem qfl (h:Gr g):IsTab g.length (E g) (nr g):=qqC (qqJ (qi3 h))
theorem qso (hF:2000≤F)(hg:Gr g):qd4 F g=some (nr g):=by
 have h1:=hg.1
 have h2:=qqN hg
 have hex:=qr4 (af 0 g)
 unfold qd4 qbF
 rw[qvz (by omega)]
 simp only[qBi]
 rw[qut (by omega) (by omega) (fun l hl=>by grind [qgI])]
 have hf:=qmM (F:=F) (n:=g.length) (yy:=fun x x_1=>qbx F x x_1.1 x_1.2) (fun _ _=>rfl) (af 0 g) [] (qi3 hg) (by grind)
 rw[qBF] at hf
 refine (congrArg (fun z=>Option.bind z _) hf).trans ?_
 simp only[qBi,Sum.elim_inl]
 have e0:tab g.length (exA (af 0 g))=tb2 g.length (fun a=>Go.Lib.compact (srt (rowOf (exA (af 0 g)) (a:Nat)))) (fun (a:Nat)=>rowOf (exA (af 0 g)) a) 0:=by
  rfl
 have hl:=qvD (F:=F) (n:=g.length) (T:=tab g.length (exA (af 0 g))) (h:=fun (a:Nat)=>rowOf (exA (af 0 g)) a) (qhO _ _) (fun i=>by grind [rowOf]) (by omega) F 0 (by omega) (by omega)
 rw[← e0] at hl
 refine Eq.trans hl ?_
 congr 1
 have ht:IsTab g.length (E g) ((qBx g.length).map fun (a:Nat)=>Go.Lib.compact (srt (rowOf (exA (af 0 g)) a))):=by
  refine ⟨by simp,fun i r hr=>?_⟩
  have hi:i<g.length:=by grind
  simp only[qCp,qDt hi,qCj,qBs] at hr
  subst hr
  obtain ⟨c1,c2⟩:=qqD (qod (rowOf (exA (af 0 g)) (i:Int)))
  exact ⟨c1,fun x=>by rw[c2,(qjh _).mem_iff,qmL];rfl⟩
 exact qlf ht (qfl hg) fun _=>Iff.rfl
theorem qf5 (g:List (qD0)):(nr g).length=g.length:=by simp[nr]
def Nb (g:List (qD0))(i k:Nat):Bool:=decide (((i:Int),(k:Int))∈E g)
theorem qzu {i:Nat}:Nb g i k=Nb g k i:=by
 unfold Nb
 refine decide_eq_decide.2 ?_
 grind [E,qr5]
theorem qyX (hg:Gr g){i:Nat}(h:Nb g i k=true):i<g.length∧k<g.length:=by
 have:=qqJ (qi3 hg) _ (of_decide_eq_true h)
 omega
theorem qf4 {i:Nat}(hi:i<g.length):(nr g)[i]?=some (cols (E g) i g.length):=by simp[nr,hi]
def nbs (g:List (qD0))(i:Nat):List Nat:=(qBx g.length).filter fun k=>Nb g i k
theorem qo9 (g:List (qD0))(i:Nat):cols (E g) i g.length=(nbs g i).map fun (k:Nat)=>(k:Int):=rfl
theorem qnY (hg:Gr g){i:Nat}:k∈nbs g i↔Nb g i k=true:=by
 unfold nbs
 rw[qCf,qCh]
 exact ⟨fun h=>h.2,fun h=>⟨(qyX hg h).2,h⟩⟩
theorem qz2 (g:List (qD0))(i:Nat):(nbs g i).Pairwise (·<·):=List.pairwise_lt_range.filter _
theorem qsn (g:List (qD0))(i:Nat):(nbs g i).length≤g.length:=by
 grind [nbs]
def P (g:List (qD0))(x:Nat):Nat:=(gD (spartL g) x).toNat
theorem qAJ (hg:Gr g)(hx:x<g.length):gD (spartL g) x=(P g x:Int):=by
 have:=(qeR hg).le x hx
 unfold P;omega
theorem qAK (hg:Gr g)(hx:x<g.length)(hy:y<g.length):P g x=P g y↔Sc g x y:=by
 rw[← (qeR hg).iff hx hy,qAJ hg hx,qAJ hg hy];omega
theorem qAW {L:List Nat}(h:L.Pairwise (·<·)):(iz L).Pairwise (·<·):=by
 grind [iz]
def ldB (g:List (qD0))(k i:Nat):Bool:=decide (((k:Int),(i:Int))∈af 0 g)
theorem qhD {i:Nat}:ldB g k i=true↔Ld g k i:=by unfold ldB Ld;simp
def free (g:List (qD0))(out:List Nat)(i:Nat):Bool:=decide (i∉out) && (qBx g.length).all fun k=>decide (k∈out) || !ldB g k i
theorem qi1 {out:List Nat}{i:Nat}:free g out i=true↔i∉out∧∀ k,k<g.length→Ld g k i→k∈out:=by
 unfold free
 simp only[qB6,decide_eq_true_eq,List.all_eq_true,qCh,qCK,Bool.not_eq_true']
 refine and_congr Iff.rfl ⟨fun h k hk hl=>?_,fun h k hk=>?_⟩
 ·grind [qhD]
 ·by_cases hl:Ld g k i
  ·simp_all
  ·refine .inr ?_
   rw[← Bool.not_eq_true,qhD];omega
def nxO (g:List (qD0))(out:List Nat):Option Nat:=(qBx g.length).find? (free g out)
def ordM (g:List (qD0)):Nat→List Nat→Option (List Nat)
 | 0,out=>some out
 | m+1,out=>match nxO g out with
  | none=>none
  | some i=>ordM g m (out++[i])
def ordL (g:List (qD0)):Option (List Nat):=ordM g g.length []
structure OI (g:List (qD0)) (out:List Nat):Prop where
 nd:out.Nodup
 lt:∀ i,i∈out→i<g.length
 pre:∀ i,i∈out→∀ k,Ld g k i→k∈out
theorem OI.len {out:List Nat}(h:OI g out):out.length≤g.length:=by
 have:=qfk (M:=qBx g.length) h.nd fun x hx=>qCh.2 (h.lt x hx)
 simp_all
theorem qpw {out:List Nat}{i:Nat}(h:nxO g out=some i):i<g.length∧free g out i=true∧∀ j,j<i→free g out j=false:=by
 grind [nxO,List.find?_range_eq_some]
theorem qvJ {out:List Nat}(h:nxO g out=none){i:Nat}(hi:i<g.length):free g out i=false:=by
 have:=List.find?_eq_none.1 h i (qCh.2 hi)
 simp_all
theorem OI.snoc (hg:Gr g){out:List Nat}{i:Nat}(h:OI g out)(hi:i<g.length)(hf:free g out i=true):OI g (out++[i]):=by
 obtain ⟨h1,h2⟩:=qi1.1 hf
 refine ⟨List.nodup_append.2 ⟨h.nd,by simp,fun a ha b hb e=>?_⟩,fun x hx=>?_,fun x hx k hk=>?_⟩
 ·simp_all
 ·rcases qBn.1 hx with hx | hx
  ·exact h.lt x hx
  simp_all
 ·rw[qBn]
  rcases qBn.1 hx with hx | hx
  ·exact .inl (h.pre x hx k hk)
  grind [qvq]
def cntP (g:List (qD0))(out:List Nat)(i:Nat):Nat:=((qBx g.length).filter fun k=>decide (k∉out) && ldB g k i).length
theorem qtp {out:List Nat}{i:Nat}(hi:i∉out):cntP g out i=0↔free g out i=true:=by
 rw[qi1]
 unfold cntP
 rw[List.length_eq_zero_iff,List.filter_eq_nil_iff]
 simp only[qCh,qB6,decide_eq_true_eq,qhD,not_and]
 grind
theorem qk7 {p:Nat→Bool}{n0:Nat}:∀ (L:List Nat),L.Nodup→(L.filter p).length=(L.filter fun k=>p k && decide (k≠n0)).length+if n0∈L∧p n0=true then 1 else 0
 | [],_=>by simp
 | a::L,h=>by
  obtain ⟨h1,h2⟩:=qCi.1 h
  have ih:=qk7 (p:=p) (n0:=n0) L h2
  grind
theorem qto {out:List Nat}{n0 i:Nat}(hn:n0<g.length)(h0:n0∉out):cntP g out i=cntP g (out++[n0]) i+if ldB g n0 i=true then 1 else 0:=by
 unfold cntP
 rw[qk7 (n0:=n0) _ qDm]
 grind
def ahd (g:List (qD0))(out:List Nat)(i:Nat):Int:=if i∈out then -1 else (cntP g out i:Int)
theorem ahead0 (hg:Gr g):lens (tn g)=ti g.length (ahd g []):=by
 refine qnK (by grind [qf8,lens,qou]) fun t ht=>?_
 have htn:t<g.length:=by grind [lens,qou]
 have htl:t<(tn g).length:=by rw[qou];omega
 rw[qs6 htn]
 have hr:(tn g)[t]?=some (tn g)[t]:=qBk htl
 have e1:gD (lens (tn g)) t=((tn g)[t].length:Int):=by grind [gD,lens]
 have e2:(tn g)[t]=iz ((qBx g.length).filter fun k=>ldB g k t):=by
  refine pwx ((qzn hg).2.1 _ (qBE htl)).1 (qAW (List.pairwise_lt_range.filter _)) fun z=>?_
  unfold iz
  rw[qBK]
  constructor
  ·intro hz
   have hz0:=((qzn hg).2.1 _ (qBE htl)).2 z hz
   obtain ⟨k,rfl⟩:=qBm hz0.1
   rw[qou] at hz0
   refine ⟨k,qCf.2 ⟨qCh.2 (by omega),?_⟩,rfl⟩
   rw[qhD,← qy7 hg]
   grind [qjM]
  ·rintro ⟨k,hk,rfl⟩
   have:=(qCf.1 hk).2
   rw[qhD,← qy7 hg] at this
   grind [qjM]
 grind [qeC,ahd,cntP]
theorem qvK {F n0:Nat}{g:List (qD0)}{out:List Nat}{r:qD0}{o:qD0}{rec18:(qD0×qD0)→Option (qD0×Int)}(hg:Gr g)(hr:g[n0]?=some r)(hno:∀ i,i∈out++[n0]→¬ Ld g n0 i):∀ (k j:Nat),r.length<k+j→j≤r.length →
  qaC F rec18 o (n0:Int) r k (ti g.length (fun i=>if i∈out++[n0] then -1 else (cntP g out i:Int)-if (i:Int)∈r.take j then 1 else 0),(j:Int))=qaB F rec18 o (n0:Int) (ti g.length fun i=>if i∈out++[n0] then -1 else (cntP g out i:Int)-if (i:Int)∈r then 1 else 0)
 | 0,_,_,_=>by omega
 | k+1,j,h,hj=>by
  have h100:=hg.1
  have hrm:=qBl hr
  have hrl:=qgI hg hrm
  have hrg:=hg.2.1 r hrm
  show qcs F rec18 o (n0:Int) r (qaC F rec18 o (n0:Int) r k) (ti g.length (fun i=>if i∈out++[n0] then -1 else (cntP g out i:Int)-if (i:Int)∈r.take j then 1 else 0)) (j:Int)=_
  unfold qcs
  by_cases hlt:j<r.length
  ·have hx:=hrg.2 r[j] (qBE hlt)
   obtain ⟨x,hx1⟩:=qBm hx.1
   have hxN:x<g.length:=by omega
   have hld:Ld g n0 x:=qjM.2 ⟨r,hr,by grind⟩
   have hxo:x∉out++[n0]:=fun hm=>hno x hm hld
   have hnew:¬ (x:Int)∈r.take j:=by
    grind [List.getElem_of_mem,qBT]
   have hcb:cntP g out x≤g.length:=by
    grind [cntP]
   rw[if_pos (by simp_all),qo,qBk hlt,hx1]
   simp only[qBi]
   rw[qo,qgT hxN]
   simp only[qBi]
   unfold lett
   rw[if_neg hxo,if_neg hnew,qBo,zN (by omega) (by omega),qu (by omega),qot]
   have e:(ti g.length fun i=>if i=x then (cntP g out x:Int)-0-1 else if i∈out++[n0] then -1 else (cntP g out i:Int)-if (i:Int)∈r.take j then 1 else 0)=ti g.length fun i=>if i∈out++[n0] then -1 else (cntP g out i:Int)-if (i:Int)∈r.take (j+1) then 1 else 0:=by
    refine qjq fun i _=>?_
    have hm:((i:Int)∈r.take (j+1))↔((i:Int)∈r.take j∨i=x):=by
     grind [qbV]
    grind
   show qaC F rec18 o (n0:Int) r k (ti g.length (fun i=>if i=x then (cntP g out x:Int)-0-1 else if i∈out++[n0] then -1 else (cntP g out i:Int)-if (i:Int)∈r.take j then 1 else 0),((j+1:Nat):Int))=_
   rw[e]
   exact qvK hg hr hno k (j+1) (by omega) (by omega)
  grind
theorem qld {F:Nat}{l:qD0}{v:Int}(hm:l.length≤1000000)(hno:∀ j:Nat,l[j]?≠some v):∀ (k i:Nat),l.length<k+i→i≤l.length→kL F l v k (i:Int)=some (-1)
 | 0,_,_,_=>by omega
 | k+1,i,h,hi=>by
  show kK F l v (kL F l v k) (i:Int)=_
  unfold kK
  by_cases hlt:i<l.length
  ·have:=hno i
   rw[qBk hlt] at this
   rw[if_pos (by simp_all),qo,qBk hlt]
   simp only[qBi]
   rw[if_neg (by grind),qu (by omega)]
   exact qld hm hno k (i+1) (by omega) (by omega)
  ·rw[if_neg (by simp_all)]
   rfl
def ordR (x:Option (List Nat)):qD0×Int:=match x with | none=>([],4) | some o=>(iz o,0)
theorem qsr {F:Nat}{g:List (qD0)}(hF:4000≤F)(hg:Gr g):∀ (m k:Nat) (out:List Nat),m<k→out.length+m=g.length→OI g out→vG F g k (ti g.length (ahd g out),iz out)=some (ordR (ordM g m out))
 | m,0,_,h,_,_=>by omega
 | m,k+1,out,h,hm,ho=>by
  have h100:=hg.1
  show qcr F g (vG F g k) (ti g.length (ahd g out)) (iz out)=_
  unfold qcr
  rw[qeC,qf8]
  cases m with
  | zero =>
   rw[if_neg (by simp_all)]
   rfl
  | succ m =>
   rw[if_pos (by grind)]
   unfold kF
   have hz:∀ i,i<g.length→((ti g.length (ahd g out))[i]?=some 0↔free g out i=true):=by
    grind [qgT,ahd,qi1,qtp]
   cases hn:nxO g out with
   | none =>
    have:=qld (F:=F) (l:=ti g.length (ahd g out)) (v:=0) (by rw[qf8];omega) (fun j=>by
     grind [qvJ,qf8]) F 0 (by rw[qf8];omega) (by omega)
    rw[show ((0:Nat):Int)=0 from rfl] at this
    rw[this]
    simp only[qBi]
    rw[if_pos (by decide)]
    simp only[ordM,hn]
    rfl
   | some i =>
    obtain ⟨hi,hf,hl⟩:=qpw hn
    have:=qnQ (F:=F) (l:=ti g.length (ahd g out)) (v:=0) (p:=i) (by rw[qf8];omega) ((hz i hi).2 hf) (fun j hj he=>by
     grind) F 0 (by rw[qf8];omega) (by omega)
    rw[show ((0:Nat):Int)=0 from rfl] at this
    rw[this]
    simp only[qBi]
    obtain ⟨f1,f2⟩:=qi1.1 hf
    have hr:g[i]?=some g[i]:=qBk hi
    have hrl:=qgI hg (qBE hi)
    have hno:∀ x,x∈out++[i]→¬ Ld g i x:=fun x hx hld=>by
     rcases qBn.1 hx with hx | hx
     ·exact f1 (ho.pre x hx i hld)
     simp_all
    rw[if_neg (by simp),qo,qgT hi]
    simp only[qBi]
    unfold lett
    rw[qBo,qo,hr]
    simp only[qBi]
    have hstart:(ti g.length (ahd g out)).set i (-1)=ti g.length fun x=>if x∈out++[i] then -1 else (cntP g out x:Int)-if (x:Int)∈(g[i]).take 0 then 1 else 0:=by
     grind [qot,ahd]
    have hin:=qvK (F:=F) (out:=out) (o:=iz out) (rec18:=vG F g k) hg hr hno F 0 (by omega) (by omega)
    rw[show ((0:Nat):Int)=0 from rfl,← hstart] at hin
    rw[hin]
    unfold qaB
    rw[kG (by grind [qeC])]
    simp only[qBi]
    have hend:(ti g.length fun x=>if x∈out++[i] then -1 else (cntP g out x:Int)-if (x:Int)∈g[i] then 1 else 0)=ti g.length (ahd g (out++[i])):=by
     refine qjq fun x _=>?_
     grind [ahd,qto,qjM,qhD]
    have hz2:iz out++[(i:Int)]=iz (out++[i]):=by simp[iz]
    rw[hend,hz2,qsr hF hg m k (out++[i]) (by omega) (by grind) (ho.snoc hg hi hf)]
    simp only[ordM,hn]
theorem quq (hF:4000≤F):qc7 F g=some (if gchk g≠0 then ([],gchk g) else ordR (ordL g)):=by
 unfold qc7
 rw[qqH (by omega)]
 simp only[qBi]
 unfold degM
 by_cases h:gchk g=0
 ·have hg:=jP.1 h
  have h100:=hg.1
  have hn:¬ gchk g≠0:=by omega
  rw[if_neg hn,if_neg hn,if_neg (by simp)]
  simp only
  rw[ahead0 hg]
  exact qsr hF hg g.length F [] (by omega) (by simp) ⟨List.nodup_nil,fun i hi=>by grind,fun i hi=>by grind⟩
 simp_all
def dg (g:List (qD0))(S:Nat→Bool)(v:Nat):Nat:=(qBx g.length).countP fun u=>S u && Nb g v u
def KK (g:List (qD0))(k:Nat)(S:Nat→Bool):Prop:=∀ v,v<g.length→S v=true→k≤dg g S v
structure IsCore (g:List (qD0)) (c:Nat→Nat):Prop where
 own:∀ v,v<g.length→c v≤dg g (fun u=>decide (c v≤c u)) v
 max:∀ k S,KK g k S→∀ v,v<g.length→S v=true→k≤c v
theorem qr0 {T:Nat→Bool}{v:Nat}(h:∀ u,u<g.length→S u=true→T u=true):dg g S v≤dg g T v:=by
 simp_all [dg,List.countP_mono_left]
theorem qgH {p:Nat→Bool}{a:Nat}:∀ {l:List Nat},l.Nodup→a∈l→l.countP p=l.countP (fun u=>p u && decide (u≠a))+if p a then 1 else 0
 | [],_,h=>by grind
 | b::l,hn,h=>by
  obtain ⟨h1,h2⟩:=qCi.1 hn
  rw[List.countP_cons,List.countP_cons]
  rcases qBp.1 h with rfl | h
  ·grind [List.countP_congr]
  ·have hne:b≠a:=fun he=>h1 (he▸h)
   rw[qgH h2 h]
   grind
def sub1 (S:Nat→Bool)(a:Nat):Nat→Bool:=fun u=>S u && decide (u≠a)
theorem quW {v:Nat}(ha:a<g.length)(hs:S a=true):dg g S v=dg g (sub1 S a) v+if Nb g v a then 1 else 0:=by
 unfold dg
 rw[qgH (a:=a) qDm (qCh.2 ha)]
 grind [sub1]
def Best (L:qD0)(b:Int)(i:Nat):Prop :=
 (b=-1∧∀ j,j<i→L.getD j 0<0)∨∃ v:Nat,v<i∧b=(v:Int)∧0≤L.getD v 0∧∀ j,j<i→0≤L.getD j 0→L.getD v 0≤L.getD j 0
theorem qr9 {L:qD0}{i:Nat}(h:i<L.length):L.getD i 0=L[i]:=by simp_all
theorem qsh {F:Nat}{L:qD0}(hm:L.length≤1000000):∀ (k i:Nat) (b:Int),L.length<k+i→i≤L.length→Best L b i→∃ b',kq F L k (b,(i:Int))=some (b',L)∧Best L b' L.length
 | 0,_,_,_,_,_=>by omega
 | k+1,i,b,h,hi,hb=>by
  show ∃ b',jV F L (kq F L k) b (i:Int)=some (b',L)∧_
  unfold jV va y9 y8
  by_cases hlt:i<L.length
  ·have hgi:=qr9 hlt
   have hrec:=fun b=>qsh (F:=F) hm k (i+1) b (by omega) (by omega)
   rw[if_pos (by simp;omega),qo,qBk hlt]
   simp only[qBi]
   rw[qu (by omega)]
   have stay:(L[i]<0∨∃ v:Nat,v<i∧b=(v:Int)∧L.getD v 0≤L[i])→Best L b (i+1):=by
    intro hc
    rcases hb with ⟨hb1,hb2⟩ | ⟨v,hv,hb1,hb2,hb3⟩
    ·rcases hc with hc | ⟨v,_,hc,_⟩
     ·refine .inl ⟨hb1,fun j hj=>?_⟩
      by_cases hji:j=i
      ·subst hji;omega
      ·exact hb2 j (by omega)
     ·omega
    ·refine .inr ⟨v,by omega,hb1,hb2,fun j hj h0=>?_⟩
     by_cases hji:j=i
     ·subst hji
      rcases hc with hc | ⟨v',_,hc1,hc2⟩
      ·omega
      ·have:v'=v:=by omega
       subst this;omega
     ·exact hb3 j (by omega) h0
   by_cases h0:0≤L[i]
   ·rw[if_pos (by simpa using h0)]
    by_cases hb0:b<0
    ·rw[if_pos (by simpa using hb0),if_pos trivial]
     refine hrec _ (.inr ⟨i,by omega,rfl,by omega,fun j hj h1=>?_⟩)
     by_cases hji:j=i
     ·subst hji;omega
     ·rcases hb with ⟨_,hb2⟩ | ⟨v,hv,hb1,_⟩
      ·have:=hb2 j (by omega);omega
      ·omega
    ·rw[if_neg (by simpa using hb0)]
     rcases hb with ⟨hb1,_⟩ | ⟨v,hv,hb1,hb2,hb3⟩
     ·omega
     ·have hgv:=qr9 (show v<L.length by omega)
      rw[hb1,qo,qBk (by omega)]
      simp only[qBi]
      by_cases hc:L[i]<L[v]
      ·rw[if_pos (by simpa using hc)]
       refine hrec _ (.inr ⟨i,by omega,rfl,by omega,fun j hj h1=>?_⟩)
       by_cases hji:j=i
       ·subst hji;omega
       ·have:=hb3 j (by omega) h1;omega
      ·rw[if_neg (by simpa using hc),← hb1]
       exact hrec _ (stay (.inr ⟨v,hv,hb1,by omega⟩))
   ·rw[if_neg (by simpa using h0),if_neg (by simp)]
    exact hrec _ (stay (.inl (by omega)))
  ·rw[if_neg (by simp;omega)]
   refine ⟨b,rfl,?_⟩
   rw[show L.length=i from by omega];exact hb
theorem qmH {X:List (qD0)}{L:qD0}(hm:L.length≤1000000)(hF:L.length<F):∃ b',vo F X L=some (b',L)∧Best L b' L.length:=by
 unfold vo
 exact qsh hm F 0 (-1) (by omega) (by omega) (.inl ⟨rfl,by omega⟩)
def dl (n:Nat)(L:qD0)(r:List Nat):qD0:=(qBx n).map fun u=>if decide (u∈r) && decide (0≤L.getD u 0) then L.getD u 0-1 else L.getD u 0
theorem quY (n:Nat)(L:qD0)(r:List Nat):(dl n L r).length=n:=by simp[dl]
theorem qzK {n:Nat}{L:qD0}{r:List Nat}{u:Nat}(h:u<n):(dl n L r)[u]?=some (if decide (u∈r) && decide (0≤L.getD u 0) then L.getD u 0-1 else L.getD u 0):=by simp[dl,h]
theorem qu1 {F n:Nat}{L:qD0}{r:List Nat}(hr:∀ x∈r,x<n)(hnd:r.Nodup)(hL:∀ u,u<n→-1≤L.getD u 0∧L.getD u 0≤1000000)(hm:r.length≤1000000):∀ (k j:Nat),r.length<k+j→j≤r.length →
  vN F (r.map fun (x:Nat)=>(x:Int)) k ((j:Int),dl n L (r.take j))=some (dl n L r)
 | 0,_,_,_=>by omega
 | k+1,j,h,hj=>by
  show qa1 F (r.map fun (x:Nat)=>(x:Int)) (vN F (r.map fun (x:Nat)=>(x:Int)) k) (j:Int) (dl n L (r.take j))=_
  unfold qa1 vM
  by_cases hlt:j<r.length
  ·have hrec:=qu1 (F:=F) hr hnd hL hm k (j+1) (by omega) (by omega)
   have hx:=hr _ (qBE hlt)
   have hni:r[j]∉r.take j:=fun hmem=>by
    grind [qDq,List.getElem_inj]
   have hv:(dl n L (r.take j))[r[j]]?=some (L.getD r[j] 0):=by grind [qzK]
   have hLx:=hL _ hx
   have hiff:∀ u,u∈r.take (j+1)↔u∈r.take j∨u=r[j]:=fun u=>by grind [qbV]
   rw[if_pos (by simp_all),qo,qCp,qBk hlt]
   simp only[qCj,qBi]
   rw[qo,hv]
   simp only[qBi]
   by_cases h0:0≤L.getD r[j] 0
   ·rw[if_pos (by grind),zN (by omega) (by omega)]
    simp only[lett,qBo]
    rw[qu (by omega)]
    have e:(dl n L (r.take j)).set r[j] (L.getD r[j] 0-1)=dl n L (r.take (j+1)):=by
     apply qBY (by simp[dl])
     intro u h1 h2
     rw[quY] at h2
     rw[qDN]
     simp only[dl,qC4,qCH]
     grind
    simp_all
   ·rw[if_neg (by grind),qu (by omega)]
    have e:dl n L (r.take j)=dl n L (r.take (j+1)):=by
     apply qBY (by simp[dl])
     intro u h1 h2
     simp only[dl,qC4,qCH]
     grind
    simp_all
  grind
def lfC (g:List (qD0))(S:Nat→Bool):qD0:=(qBx g.length).map fun v=>if S v then (dg g S v:Int) else -1
theorem qf2 (g:List (qD0))(S:Nat→Bool):(lfC g S).length=g.length:=by simp[lfC]
theorem qnW {v:Nat}(h:v<g.length):(lfC g S)[v]?=some (if S v then (dg g S v:Int) else -1):=by simp[lfC,h]
theorem qi8 {v:Nat}(h:v<g.length):(lfC g S).getD v 0=if S v then (dg g S v:Int) else -1:=by grind [qnW]
theorem qyZ (g:List (qD0))(S:Nat→Bool)(v:Nat):dg g S v≤g.length:=by
 grind [dg,List.countP_le_length]
theorem qxD {v:Nat}{S : Nat → Bool}(hF : 2000 ≤ F)(hg : Gr g)(hv : v < g.length)(hS : S v = true) : qan F (nr g) (lfC g S) (v : Int) = some (lfC g (sub1 S v)) := by
  have h1 := hg.1
  unfold qan
  rw [qo, qnW hv]
  simp only [qBi, lett, qBo]
  rw [qo, qf4 hv, qo9]
  simp only [qBi]
  have hgd : ∀ u, u < g.length → ((lfC g S).set v (-1)).getD u 0 = if u = v then -1 else (lfC g S).getD u 0 := fun u hu => by
    unfold qDP
    rw [List.getElem?_set]
    by_cases h : v = u
    · subst h; rw [if_pos rfl, if_pos (by rw [qf2]; omega), if_pos rfl]; rfl
    grind
  have hd0 : (lfC g S).set v (-1) = dl g.length ((lfC g S).set v (-1)) ((nbs g v).take 0) := by
    apply qBY (by simp [dl, lfC])
    simp_all [dl]
  have := qu1 (F := F) (n := g.length) (L := (lfC g S).set v (-1)) (r := nbs g v) (fun x hx => (qyX hg ((qnY hg).1 hx)).2) ((qz2 g v).imp fun h => by omega) (fun u hu => by
    grind [qi8, qyZ]) (by grind [qsn]) F 0 (by grind [qsn]) (by omega)
  rw [← hd0] at this
  refine Eq.trans this ?_
  congr 1
  apply qBY (by simp [dl, lfC])
  intro u b1 b2
  rw [quY] at b1
  simp only [dl, lfC, qC4, qCH]
  have hgu := hgd u b1
  rw [qi8 b1] at hgu
  unfold lfC at hgu
  rw [hgu]
  by_cases huv : u = v
  · subst huv
    rw [if_pos rfl]
    simp [sub1]
  · rw [if_neg huv]
    have hsub : sub1 S v u = S u := by simp [sub1, huv]
    rw [hsub]
    by_cases hSu : S u = true
    · rw [if_pos hSu, if_pos hSu]
      have hm := quW (g := g) (S := S) (a := v) (v := u) hv hS
      have hmem : decide (u ∈ nbs g v) = Nb g u v := by rw [qzu]; by_cases h : Nb g v u = true
                                                        · grind [qnY]
                                                        · rw [Bool.not_eq_true] at h; grind [qnY]
      grind
    grind
structure PInv (g:List (qD0)) (S:Nat→Bool) (c:Nat→Nat) (most:Nat):Prop where
 le:∀ v,v<g.length→S v=false→c v≤most
 ub:∀ k T,KK g k T→(∀ v,v<g.length→T v=true→S v=false→k≤c v)∧((∃ v,v<g.length∧T v=true∧S v=false)→k≤most)
 cur:∃ R,KK g most R∧(∀ u,u<g.length→S u=true→R u=true)∧∀ u,u<g.length→R u=true→S u=false→most≤c u
 own:∀ v,v<g.length→S v=false→∃ T,T v=true∧KK g (c v) T∧∀ u,u<g.length→T u=true→S u=false→c v≤c u
def updC (c:Nat→Nat)(a x:Nat):Nat→Nat:=fun v=>if v=a then x else c v
theorem qtM {c:Nat→Nat}{most:Nat}(h:PInv g S c most)(ha:a<g.length)(hSa:S a=true)(hmin:∀ u,u<g.length→S u=true→dg g S a≤dg g S u) :
  PInv g (sub1 S a) (updC c a (max most (dg g S a))) (max most (dg g S a)):=by
 have hs:∀ v,sub1 S a v=false→v≠a→S v=false:=fun v h1 h2=>by simpa[sub1,h2] using h1
 have cur':∃ R,KK g (max most (dg g S a)) R∧R a=true∧(∀ u,u<g.length→sub1 S a u=true→R u=true)∧∀ u,u<g.length→R u=true→sub1 S a u=false→max most (dg g S a)≤updC c a (max most (dg g S a)) u:=by
  by_cases hd:dg g S a≤most
  ·obtain ⟨R,r1,r2,r3⟩:=h.cur
   rw[Nat.max_eq_left hd]
   refine ⟨R,r1,r2 a ha hSa,fun u hu hsu=>r2 u hu (by grind [sub1]),fun u hu hRu hsu=>?_⟩
   unfold updC
   grind
  ·rw[Nat.max_eq_right (by omega)]
   refine ⟨S,fun u hu hSu=>hmin u hu hSu,hSa,fun u hu hsu=>by grind [sub1],fun u hu hRu hsu=>?_⟩
   unfold updC
   grind
 have hle:most≤max most (dg g S a):=Nat.le_max_left _ _
 have key:∀ k T,KK g k T→T a=true→k≤max most (dg g S a):=fun k T hT hTa=>by
  by_cases hex:∃ v,v<g.length∧T v=true∧S v=false
  ·exact qB5 ((h.ub k T hT).2 hex) hle
  ·have hsub:∀ u,u<g.length→T u=true→S u=true:=fun u hu hTu=>by
    simp_all
   exact qB5 (hT a ha hTa) (qB5 (qr0 hsub) (Nat.le_max_right _ _))
 refine ⟨fun v hv hsv=>?_,fun k T hT=>⟨fun v hv hTv hsv=>?_,?_⟩,?_,fun v hv hsv=>?_⟩
 ·unfold updC
  by_cases hva:v=a
  ·simp_all
  ·rw[if_neg hva];exact qB5 (h.le v hv (hs v hsv hva)) hle
 ·unfold updC
  by_cases hva:v=a
  ·grind
  ·rw[if_neg hva];exact (h.ub k T hT).1 v hv hTv (hs v hsv hva)
 ·rintro ⟨v,hv,hTv,hsv⟩
  by_cases hva:v=a
  ·grind
  ·exact qB5 ((h.ub k T hT).2 ⟨v,hv,hTv,hs v hsv hva⟩) hle
 ·grind
 ·by_cases hva:v=a
  ·obtain ⟨R,r1,r0,r2,r3⟩:=cur'
   subst hva
   have e:updC c v (max most (dg g S v)) v=max most (dg g S v):=if_pos rfl
   grind
  ·obtain ⟨T,t1,t2,t3⟩:=h.own v hv (hs v hsv hva)
   grind [updC]
theorem qtL {c:Nat→Nat}{most:Nat}(h:PInv g S c most)(hS:∀ v,v<g.length→S v=false):IsCore g c:=by
 refine ⟨fun v hv=>?_,fun k T hT v hv hTv=>(h.ub k T hT).1 v hv hTv (hS v hv)⟩
 obtain ⟨T,t1,t2,t3⟩:=h.own v hv (hS v hv)
 exact qB5 (t2 v hv t1) (qr0 fun u hu hTu=>decide_eq_true (t3 u hu hTu (hS u hu)))
def nlC (n:Nat)(c:Nat→Nat):qD0:=(qBx n).map fun v=>(c v:Int)
theorem qvE {n v:Nat}{c:Nat→Nat}(h:v<n):(nlC n c)[v]?=some (c v:Int):=by simp[nlC,h]
theorem qz4 {n:Nat}{c:Nat→Nat}:(nlC n c).set a (x:Int)=nlC n (updC c a x):=by
 apply qBY (by simp[nlC])
 grind [nlC,updC]
def cntS (n:Nat)(S:Nat→Bool):Nat:=(qBx n).countP S
theorem qqB {n:Nat}(ha:a<n)(hs:S a=true):cntS n S=cntS n (sub1 S a)+1:=by
 unfold cntS
 rw[qgH (a:=a) qDm (qCh.2 ha),if_pos hs]
 rfl
theorem qjb {F:Nat}{g:List (qD0)}(hF:2000≤F)(hg:Gr g):∀ (k:Nat) (S:Nat→Bool) (c:Nat→Nat) (most:Nat) (b:Int),cntS g.length S<k→PInv g S c most→Best (lfC g S) b g.length→most≤1000000 →
  ∃ c',IsCore g c'∧qcK F (nr g) k (nlC g.length c,(most:Int),b,lfC g S)=some (nlC g.length c',0)
 | 0,_,_,_,_,h,_,_,_=>by omega
 | k+1,S,c,most,b,h,hp,hb,hm=>by
  have h1:=hg.1
  show ∃ c',IsCore g c'∧qcI F (nr g) (qcK F (nr g) k) (nlC g.length c) (most:Int) b (lfC g S)=_
  unfold qcI
  rcases hb with ⟨hb1,hb2⟩ | ⟨v,hv,hb1,hb2,hb3⟩
  ·rw[if_neg (by simp_all)]
   refine ⟨c,qtL hp fun v hv=>?_,rfl⟩
   grind [qi8]
  ·have hSv:S v=true:=by
    grind [qi8]
   have hmin:∀ u,u<g.length→S u=true→dg g S v≤dg g S u:=fun u hu hSu=>by
    grind [qi8]
   have hdl:=qyZ g S v
   rw[if_pos (by simp_all),hb1,qo,qnW hv,if_pos hSv]
   simp only[qBi]
   rw[qo,qvE hv]
   simp only[qBi,lett,qBo]
   have hmx:imax (most:Int) (dg g S v:Int)=((max most (dg g S v):Nat):Int):=by grind [imax]
   rw[hmx,qz4,qxD hF hg hv hSv]
   simp only[qBi]
   obtain ⟨b',hl,hbb⟩:=qmH (F:=F) (X:=nr g) (L:=lfC g (sub1 S v)) (by rw[qf2];omega) (by rw[qf2];omega)
   rw[hl]
   simp only[qBi]
   rw[qf2] at hbb
   have hc:=qqB hv hSv
   exact qjb hF hg k _ _ _ b' (by omega) (qtM hp hv hSv hmin) hbb (by omega)
theorem qvt {F:Nat}{g:List (qD0)}(hg:Gr g):∀ (k i:Nat),g.length<k+i→i≤g.length→∀ L,L=(lfC g fun _=>true).take i →
  qcL F (nr g) k ((i:Int),L)=qbb F (nr g) (lfC g fun _=>true)
 | 0,_,_,_=>by omega
 | k+1,i,h,hi=>by
  have h1:=hg.1
  intro L hL
  show qcJ F (nr g) (qcL F (nr g) k) (i:Int) L=_
  unfold qcJ
  have hLl:L.length=i:=by grind [qf2]
  by_cases hlt:i<g.length
  ·rw[if_pos (by simp[qf5];omega),qo,qf4 hlt]
   simp only[qBi]
   rw[kG (by grind)]
   simp only[qBi]
   rw[qu (by omega)]
   refine qvt hg k (i+1) (by omega) (by omega) _ ?_
   rw[qbV (by rw[qf2];omega),← hL]
   congr 2
   have:=qnW (g:=g) (S:=fun _=>true) hlt
   grind [qo9,dg,nbs]
  grind [qf5,qf2]
theorem qq6 (hF:2000≤F)(hg:Gr g):∃ c,IsCore g c∧qcH F g=some (nlC g.length c,0):=by
 have h1:=hg.1
 unfold qcH
 rw[qa0 (by omega),jP.2 hg]
 simp only[qBi]
 rw[if_neg (by simp),qso hF hg]
 simp only[qBi]
 have hl:=qvt (F:=F) hg F 0 (by omega) (by omega) [] (by simp)
 rw[show ((0:Nat):Int)=0 from rfl] at hl
 rw[hl]
 unfold qbb
 obtain ⟨b',hl,hbb⟩:=qmH (F:=F) (X:=nr g) (L:=lfC g fun _=>true) (by rw[qf2];omega) (by rw[qf2];omega)
 rw[qf2] at hbb
 have hmk:mk 17592186044416 (0:Int) ((nr g).length:Int)=some (nlC g.length fun _=>0):=by
  unfold mk
  rw[qf5,if_pos ⟨by omega,by omega⟩,qBo]
  congr 1
  apply qBY (by simp[nlC])
  grind [nlC]
 rw[hmk,hl]
 simp only[qBi]
 have hcl:cntS g.length (fun _=>true)≤g.length:=by
  grind [cntS,List.countP_le_length]
 exact qjb hF hg F (fun _=>true) (fun _=>0) 0 b' (by omega) ⟨fun v _ h=>by omega,fun k T _=>⟨fun v _ _ h=>by grind,fun ⟨v,_,_,h⟩=>by grind⟩,⟨fun _=>true,fun v _ _=>Nat.zero_le _,fun _ _ _=>rfl,fun _ _ _ h=>by omega⟩,fun v _ h=>by grind⟩ hbb (by omega)
theorem qz0 {α:Type}{n:Nat}{y:α}(h:n≤lim):mk lim y (n:Int)=some (qBj n y):=by
 grind [mk]
def qaW {σ τ:Type}(yy:σ→qD0→Option (σ ⊕ τ)):List (qD0)→σ→Option (σ ⊕ τ)
 | [],s=>some (.inl s)
 | r::R,s=>(yy s r).bind (Sum.elim (fun s'=>qaW yy R s') (fun t=>some (.inr t)))
theorem qgQ {σ τ:Type}{yy:σ→qD0→Option (σ ⊕ τ)}:∀ (A B:List (qD0)) (s:σ),qaW yy (A++B) s=(qaW yy A s).bind (Sum.elim (fun s'=>qaW yy B s') (fun t=>some (.inr t)))
 | [],B,s=>rfl
 | p::A,B,s=>by
  show (yy s p).bind _=((yy s p).bind _).bind _
  cases yy s p with
  | none=>rfl
  | some r =>
   cases r with
   | inl s'=>exact qgQ A B s'
   | inr t=>rfl
def rowX (X:List (qD0))(b:Int):qD0:=X.getD b.toNat []
def t3 (X:List (qD0))(a b:Int)(cs:qD0):List (qD0):=(cs.filter fun c=>decide (c∈rowX X b) && decide (a<b)).map fun c=>[a,b,c]
def t2 (X:List (qD0))(a:Int):qD0→List (qD0)
 | []=>[]
 | b::cs=>t3 X a b cs++t2 X a cs
def t1 (X:List (qD0))(i:Nat):List (qD0)→List (qD0)
 | []=>[]
 | l::R=>t2 X (i:Int) l++t1 X (i+1) R
def Rws (X:List (qD0)):Prop:=X.length≤100∧∀ l∈X,l.Pairwise (·<·)∧l.length≤100∧∀ x∈l,0≤x∧x<(X.length:Int)
theorem qzm {σ τ:Type}{F:Nat}{yy:σ→qD0→Option (σ ⊕ τ)}{X:List (qD0)}{a b:Int}{cs:qD0}{i:Nat}{rec163:(Int×σ)→Option (σ ⊕ τ)}(hF:200000≤F)(hX:Rws X)(hb:0≤b∧b<(X.length:Int))(hm:cs.length≤1000000):∀ (k j:Nat) (s:σ),cs.length<k+j→j≤cs.length →
  k5 F yy rec163 X a (i:Int) b cs k ((j:Int),s)=(qaW yy (t3 X a b (cs.drop j)) s).bind (Sum.elim (fun s'=>jn F yy rec163 (i:Int) s') (fun t=>some (.inr t)))
 | 0,_,_,_,_=>by omega
 | k+1,j,s,h,hj=>by
  show jl F yy rec163 X a (i:Int) b cs (k5 F yy rec163 X a (i:Int) b cs k) (j:Int) s=_
  unfold jl jo
  by_cases hlt:j<cs.length
  ·obtain ⟨bn,rfl⟩:=qBm hb.1
   have hbl:bn<X.length:=by omega
   have hrow:=hX.2 _ (qBE hbl)
   have hrec:=fun s=>qzm (F:=F) (yy:=yy) (X:=X) (a:=a) (b:=(bn:Int)) (i:=i) (rec163:=rec163) hF hX hb hm k (j+1) s (by omega) (by omega)
   rw[if_pos (by simp_all),qo,qBk hlt,qBq hlt]
   simp only[qBi]
   rw[qo,qBk hbl]
   simp only[qBi]
   obtain ⟨p,hp⟩:=qjX (F:=F) hF (v:=cs[j]) hrow.1 (by omega)
   rw[hp]
   simp only[qBi]
   rw[qu (by omega)]
   have e:rowX X (bn:Int)=X[bn]:=by grind [rowX]
   by_cases hc:(decide (cs[j]∈X[bn]) && decide (a<(bn:Int)))=true
   ·have e3:t3 X a (bn:Int) (cs[j]::cs.drop (j+1))=[a,(bn:Int),cs[j]]::t3 X a (bn:Int) (cs.drop (j+1)):=by
     grind [t3]
    rw[if_pos hc,e3]
    unfold qaW
    cases yy s [a,(bn:Int),cs[j]] with
    | none=>rfl
    | some r =>
     grind
   grind [t3]
  ·rw[if_neg (by simp_all),qBu (by omega)]
   rfl
theorem qw4 {σ τ:Type}{F a:Nat}{yy:σ→qD0→Option (σ ⊕ τ)}{X:List (qD0)}{l:qD0}{rec115:(Int×σ)→Option (σ ⊕ τ)}(hF:200000≤F)(hX:Rws X)(hl:∀ x∈l,0≤x∧x<(X.length:Int))(hm:l.length≤100):∀ (k i:Nat) (s:σ),l.length<k+i→i≤l.length →
  qY F yy rec115 X (a:Int) l k ((i:Int),s)=(qaW yy (t2 X (a:Int) (l.drop i)) s).bind (Sum.elim (fun s'=>jm F yy rec115 (a:Int) s') (fun t=>some (.inr t)))
 | 0,_,_,_,_=>by omega
 | k+1,i,s,h,hi=>by
  show jk F yy rec115 X (a:Int) l (qY F yy rec115 X (a:Int) l k) (i:Int) s=_
  unfold jk
  by_cases hlt:i<l.length
  ·have hs:=qlM (l:=l) (i:=i+1) (j:=l.length) (by omega) (by omega)
   rw[qCB] at hs
   rw[if_pos (by simp_all),qo,qBk hlt,qBq hlt]
   simp only[qBi]
   rw[qu (by omega),hs]
   simp only[qBi]
   have hin:=qzm (F:=F) (yy:=yy) (X:=X) (a:=(a:Int)) (b:=l[i]) (cs:=l.drop (i+1)) (i:=i) (rec163:=qY F yy rec115 X (a:Int) l k) hF hX (hl _ (qBE hlt)) (by grind) F 0 s (by grind) (by omega)
   rw[qB1] at hin
   refine Eq.trans hin ?_
   unfold t2
   rw[qgQ]
   cases qaW yy (t3 X (a:Int) l[i] (l.drop (i+1))) s with
   | none=>rfl
   | some r =>
    cases r with
    | inl s' =>
     simp only[qBi,Sum.elim_inl]
     unfold jn
     rw[qu (by omega)]
     exact qw4 hF hX hl hm k (i+1) s' (by omega) (by omega)
    | inr t=>rfl
  ·rw[if_neg (by simp_all),qBu (by omega)]
   rfl
theorem qw5 {σ τ:Type}{F:Nat}{yy:σ→qD0→Option (σ ⊕ τ)}{X:List (qD0)}(hF:200000≤F)(hX:Rws X):∀ (k a:Nat) (s:σ),X.length<k+a→a≤X.length →
  qI F yy X k ((a:Int),s)=qaW yy (t1 X a (X.drop a)) s
 | 0,_,_,_,_=>by omega
 | k+1,a,s,h,ha=>by
  have h1:=hX.1
  show ji F yy X (qI F yy X k) (a:Int) s=_
  unfold ji
  by_cases hlt:a<X.length
  ·have hrow:=hX.2 _ (qBE hlt)
   rw[if_pos (by simp_all),qo,qBk hlt,qBq hlt]
   simp only[qBi]
   have hin:=qw4 (F:=F) (a:=a) (yy:=yy) (X:=X) (l:=X[a]) (rec115:=qI F yy X k) hF hX hrow.2.2 hrow.2.1 F 0 s (by omega) (by omega)
   rw[qB1] at hin
   refine Eq.trans hin ?_
   unfold t1
   rw[qgQ]
   cases qaW yy (t2 X (a:Int) X[a]) s with
   | none=>rfl
   | some r =>
    cases r with
    | inl s' =>
     simp only[qBi,Sum.elim_inl]
     unfold jm
     rw[qu (by omega)]
     exact qw5 hF hX k (a+1) s' (by omega) (by omega)
    | inr t=>rfl
  ·rw[if_neg (by simp_all),qBu (by omega)]
   rfl
def cntC (n:Nat)(l:qD0):qD0:=(qBx n).map fun (i:Nat)=>((l.count (i:Int):Nat):Int)
theorem qxr {n i:Nat}{l:qD0}(h:i<n):(cntC n l)[i]?=some ((l.count (i:Int):Nat):Int):=by simp[cntC,h]
theorem quI {n:Nat}{l:qD0}:(cntC n l).set a ((l.count (a:Int)+1:Nat):Int)=cntC n (l++[(a:Int)]):=by
 apply qBY (by simp[cntC])
 intro i h1 h2
 rw[qDN]
 simp only[cntC,qC4,qCH,List.count_append]
 grind
theorem qxs {n:Nat}{l:qD0}(ha:a<n)(hl:l.length≤lim)(hlim:lim≤1000000000):idx (cntC n l) (a:Int)=some ((l.count (a:Int):Nat):Int)∧(cntC n l).set a (iadd .i64 ((l.count (a:Int):Nat):Int) 1)=cntC n (l++[(a:Int)]):=by
 have:=List.count_le_length (a:=(a:Int)) (l:=l)
 exact ⟨by rw[qo,qxr ha],by rw[qu (by omega),quI]⟩
theorem qw6 {n:Nat}{al:Nat}{l:qD0}{b c:Nat}(hF:10≤F)(ha:a<n)(hb:b<n)(hc:c<n)(hl:l.length≤100000000)(hal:al≤100000000):kZ F (al:Int) (cntC n l) [(a:Int),(b:Int),(c:Int)]=some (.inl (((al+1:Nat):Int),cntC n (l++[(a:Int),(b:Int),(c:Int)]))):=by
 obtain ⟨k,rfl⟩:=Nat.exists_eq_add_of_le hF
 unfold kZ chk
 rw[if_pos (by simp),if_pos (by simp),qCZ]
 have step:∀ (fu x i:Nat) (l:qD0) (m:qD0),x<n→l.length≤200000000→i<3→[(a:Int),(b:Int),(c:Int)][i]?=some (x:Int)→jU (k+10) (al:Int) [(a:Int),(b:Int),(c:Int)] (fu+1) ((i:Int),cntC n l)=jU (k+10) (al:Int) [(a:Int),(b:Int),(c:Int)] fu (((i+1:Nat):Int),cntC n (l++[(x:Int)])):=by
  intro fu x i l m hx hl hi hg
  show jT (k+10) (al:Int) [(a:Int),(b:Int),(c:Int)] (jU (k+10) (al:Int) [(a:Int),(b:Int),(c:Int)] fu) (i:Int) (cntC n l)=_
  unfold jT
  obtain ⟨e1,e2⟩:=qxs (n:=n) (a:=x) (l:=l) (lim:=200000000) hx hl (by omega)
  rw[if_pos (by simp;omega)]
  simp only[chk]
  rw[if_pos (by simp),qo,hg]
  simp only[qBi]
  rw[e1]
  simp only[qBi,lett,qBo]
  rw[e2,qu (by omega)]
 have h0:=step (k+9) a 0 l [] ha (by omega) (by omega) rfl
 have h1:=step (k+8) b 1 (l++[(a:Int)]) [] hb (by simp;omega) (by omega) rfl
 have h2:=step (k+7) c 2 (l++[(a:Int)]++[(b:Int)]) [] hc (by simp;omega) (by omega) rfl
 refine Eq.trans h0 (Eq.trans h1 (Eq.trans h2 ?_))
 show jT (k+10) (al:Int) [(a:Int),(b:Int),(c:Int)] (jU (k+10) (al:Int) [(a:Int),(b:Int),(c:Int)] (k+6)) ((3:Nat):Int) (cntC n (l++[(a:Int)]++[(b:Int)]++[(c:Int)]))=_
 unfold jT
 rw[if_neg (by simp),qu (by omega)]
 simp
def Tri (n:Nat)(x:qD0):Prop:=∃ a b c:Nat,x=[(a:Int),(b:Int),(c:Int)]∧a<n∧b<n∧c<n
theorem qs5 {F n:Nat}{yy:(Int×qD0)→qD0→Option ((Int×qD0) ⊕ Empty)}(hF:10≤F)(hy:∀ s p,yy s p=kZ F s.1 s.2 p):∀ (A acc:List (qD0)),(∀ x∈A,Tri n x)→(∀ x∈acc,Tri n x)→acc.length+A.length≤10000000 →
  qaW yy A ((acc.length:Int),cntC n acc.flatten)=some (.inl (((acc++A).length:Int),cntC n (acc++A).flatten))
 | [],acc,_,_,_=>by rw[qBV];rfl
 | p::A,acc,h,hacc,hm=>by
  rw[qBQ] at hm
  obtain ⟨a,b,c,rfl,ha,hb,hc⟩:=h p (by simp)
  have hrec:=qs5 hF hy A (acc++[[(a:Int),(b:Int),(c:Int)]]) (fun q hq=>h q (by grind)) (fun q hq=>by
   grind) (by grind)
  have hfl:∀ (L:List (qD0)),(∀ x∈L,Tri n x)→L.flatten.length=3*L.length:=by
   intro L
   induction L with
   | nil=>simp
   | cons x L ih =>
    intro hL
    obtain ⟨a',b',c',rfl,_⟩:=hL x (by simp)
    grind
  have:=hfl acc hacc
  show (yy _ _).bind _=_
  rw[hy,qw6 hF ha hb hc (by omega) (by omega)]
  simp_all
theorem qzX {X:List (qD0)}{a b:Int}{cs x:qD0}:x∈t3 X a b cs↔∃ c,c∈cs∧c∈rowX X b∧a<b∧x=[a,b,c]:=by
 unfold t3
 grind
theorem qq2 {X:List (qD0)}{a:Int}{x:qD0}:∀ {l:qD0},l.Pairwise (·<·)→(x∈t2 X a l↔∃ b c,b∈l∧c∈l∧b<c∧c∈rowX X b∧a<b∧x=[a,b,c])
 | [],_=>by simp[t2]
 | b::cs,h=>by
  obtain ⟨h1,h2⟩:=qB0.1 h
  unfold t2
  rw[qBn,qzX,qq2 h2]
  grind
theorem qvx {X:List (qD0)}{x:qD0}:∀ {R:List (qD0)} {i:Nat},x∈t1 X i R↔∃ j l,R[j]?=some l∧x∈t2 X ((i+j:Nat):Int) l
 | [],i=>by simp[t1]
 | l::R,i=>by
  unfold t1
  rw[qBn,qvx (R:=R)]
  constructor
  ·rintro (h | ⟨j,l',h1,h2⟩)
   ·exact ⟨0,l,by simp,by omega⟩
   ·exact ⟨j+1,l',by grind,by grind⟩
  grind
theorem qw1 {X:List (qD0)}{a:Int}:∀ (l:qD0),(t2 X a l).length≤l.length*l.length
 | []=>by simp[t2]
 | b::cs=>by
  have:=qw1 (X:=X) (a:=a) cs
  grind [t3,t2,Nat.add_mul,Nat.mul_add]
theorem qwZ {X:List (qD0)}:∀ (R:List (qD0)) (i:Nat),(∀ l∈R,l.length≤100)→(t1 X i R).length≤10000*R.length
 | [],_,_=>by simp[t1]
 | l::R,i,h=>by
  have h1:=qwZ (X:=X) R (i+1) fun l' hl=>h l' (by grind)
  have h2:=qw1 (X:=X) (a:=(i:Int)) l
  have h3:l.length*l.length≤100*100:=Nat.mul_le_mul (h l (by simp)) (h l (by simp))
  grind [t1]
theorem qq4 (hg:Gr g):Rws (nr g):=by
 have h1:=hg.1
 refine ⟨by rw[qf5];omega,fun l hl=>?_⟩
 obtain ⟨i,hi⟩:=qCo hl
 have hlt:i<g.length:=by grind [qf5]
 rw[qf4 hlt] at hi
 cases hi
 refine ⟨((qfl hg).2 i _ (qf4 hlt)).1,qB5 (quJ _ _ _) h1,fun x hx=>?_⟩
 have:=qqJ (qi3 hg) _ (((qfl hg).2 i _ (qf4 hlt)).2 x |>.1 hx)
 grind [qf5]
def th (g:List (qD0)):List (qD0):=t1 (nr g) 0 (nr g)
theorem qzY (hg:Gr g){x:qD0}:x∈th g↔∃ a b c:Nat,x=[(a:Int),(b:Int),(c:Int)]∧a<b∧b<c∧c<g.length∧Nb g a b=true∧Nb g a c=true∧Nb g b c=true:=by
 have hr:=qq4 hg
 unfold th
 rw[qvx]
 have hrow:∀ (b:Nat) (z:Int),b<g.length→(z∈rowX (nr g) (b:Int)↔((b:Int),z)∈E g):=fun b z hb=>by
  unfold rowX
  rw[qBo,qDP,qf4 hb,Option.getD_some]
  exact ((qfl hg).2 b _ (qf4 hb)).2 z
 constructor
 ·rintro ⟨a,l,h1,h2⟩
  rw[Nat.zero_add] at h2
  have hal:a<g.length:=by grind [qf5]
  have hl:=hr.2 l (qBl h1)
  have hm:=((qfl hg).2 a _ h1).2
  obtain ⟨b,c,c1,c2,c3,c4,c5,rfl⟩:=(qq2 hl.1).1 h2
  have hb:=hl.2.2 b c1
  have hc:=hl.2.2 c c2
  rw[qf5] at hb hc
  obtain ⟨bn,rfl⟩:=qBm hb.1
  obtain ⟨cn,rfl⟩:=qBm hc.1
  refine ⟨a,bn,cn,rfl,by omega,by omega,by omega,decide_eq_true ((hm _).1 c1),decide_eq_true ((hm _).1 c2),decide_eq_true ((hrow bn _ (by omega)).1 c4)⟩
 ·rintro ⟨a,b,c,rfl,h1,h2,h3,n1,n2,n3⟩
  have hal:a<g.length:=by omega
  have hm:=((qfl hg).2 a _ (qf4 hal)).2
  refine ⟨a,_,qf4 hal,?_⟩
  rw[Nat.zero_add]
  exact (qq2 ((qfl hg).2 a _ (qf4 hal)).1).2 ⟨(b:Int),(c:Int),(hm _).2 (of_decide_eq_true n1),(hm _).2 (of_decide_eq_true n2),by omega,(hrow b _ (by omega)).2 (of_decide_eq_true n3),by omega,rfl⟩
theorem qAw (hg:Gr g):∀ x∈th g,Tri g.length x:=fun x hx=>by
 obtain ⟨a,b,c,rfl,h1,h2,h3,_⟩:=(qzY hg).1 hx
 exact ⟨a,b,c,rfl,by omega,by omega,h3⟩
theorem qw3 (hg:Gr g):(th g).length≤1000000:=by
 have h1:=hg.1
 have:=qwZ (X:=nr g) (nr g) 0 fun l hl=>((qq4 hg).2 l hl).2.1
 grind [th,qf5]
end Go.Proofs.YthibchijlpflmaaGreatDoor
