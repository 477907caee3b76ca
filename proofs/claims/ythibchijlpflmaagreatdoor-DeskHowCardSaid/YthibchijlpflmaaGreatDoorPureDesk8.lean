/- Plain facts of what the functions of this seat compute. -/
import Derived.Test.YthibchijlpflmaaGreatDoorModels
import Derived.KernelRfl
import Derived.Lib.SlicesCompact
import Derived.Lib.SplitLaws
open BitVec renaming ofNat→qBB, ofInt→qBM, allOnes→qCw, toNat_ofNat→qCB
open Bool renaming false_eq_true→qBq, and_eq_true→qBY, not_true→qB5, or_eq_true→qCE
open Classical renaming byContradiction→qC3
open Int renaming eq_ofNat_of_zero_le→qBf, toNat_natCast→qBh, natCast_nonneg→qDt
open List renaming getElem?_eq_getElem→qBc, replicate→qBd, mem_of_getElem?→qBe, mem_append→qBg, mem_cons→qBi, drop_eq_getElem_cons→qBj, length_append→qBk, drop_eq_nil_of_le→qBm, append_assoc→qBn, mem_cons_self→qBp, mem_singleton→qBr, mem_cons_of_mem→qBt, getElem_mem→qBu, getElem?_eq_some_iff→qBv, range→qBx, nil_append→qBy, length_cons→qBA, length_map→qBD, mem_map→qBI, pairwise_cons→qBJ, drop_zero→qBL, pairwise_iff_getElem→qBN, ext_getElem?→qBO, append_nil→qBR, length_replicate→qBT, map_cons→qBU, length_take→qBW, cons_append→qB2, length_drop→qB3, mem_filter→qB7, ext_getElem→qB8, take_of_length_le→qB9, getElem?_of_mem→qCf, nodup_cons→qCg, take_length→qCk, pairwise_append→qCp, getElem?_map→qCr, mem_range→qCv, map_map→qCA, take_left'→qCC, map_congr_left→qCL, getElem?_cons_succ→qCM, pairwise_map→qCR, filter_cons→qCW, getElem?_eq_none→qDe, mem_iff_getElem→qDi, getElem?_range→qDl, getD→qDH
open List.Pairwise renaming nil→qDw
open List.Perm renaming eq_of_pairwise→qCo
open Nat renaming le_refl→qBo, pow_le_pow_right→qBP, mod_eq_of_lt→qBZ, exists_eq_succ_of_ne_zero→qCs, div_le_self→qCF, pow_pos→qCH, add_comm→qCJ, min_eq_left→qC0, lt_of_lt_of_le→qC4, add_assoc→qC9, pow_succ'→qDa, div_mul_le_self→qDm, eq_zero_or_pos→qDr, div_eq_of_lt→qDE, pow_succ→qDF, pow_add→qDQ
open Option renaming bind_some→qBb, map_some→qCh
open Option.some renaming injEq→qBl
namespace Go.Proofs.YthibchijlpflmaaGreatDoor
open Go SX
variable {F:Nat} {rec68:(List (Int×Int)×qDU×Int)→Option (List (Int×Int)×qDU)} {l:qDU} {lea0:Int} {o:List (Int×Int)} {rest:qDU} {i:Int}
variable {F:Nat} {g:List (qDU)} {B l K:Int}
def byt (l:qDU)(k:Nat):Int :=
 l.getD (8*k) 0*128+l.getD (8*k+1) 0*64+l.getD (8*k+2) 0*32+l.getD (8*k+3) 0*16+l.getD (8*k+4) 0*8+l.getD (8*k+5) 0*4+l.getD (8*k+6) 0*2+l.getD (8*k+7) 0
def pk (l:qDU):qDU:=(qBx ((l.length+7)/8)).map (byt l)
def Bit (l:qDU):Prop:=∀ x∈l,x=0∨x=1
theorem Bit.getD {l:qDU}(h:Bit l)(i:Nat):l.getD i 0=0∨l.getD i 0=1:=by
 by_cases hi:i<l.length
 ·have:=h l[i] (qBu hi)
  simp_all
 simp_all
theorem qtH (l:qDU)(x:Int)(i:Nat):(l++[x]).getD i 0=if i=l.length then x else l.getD i 0:=by
 grind
theorem qjL {l:qDU}(h:Bit l)(k:Nat):0≤byt l k∧byt l k<256:=by
 have h0:=h.getD (8*k);have h1:=h.getD (8*k+1);have h2:=h.getD (8*k+2);have h3:=h.getD (8*k+3)
 have h4:=h.getD (8*k+4);have h5:=h.getD (8*k+5);have h6:=h.getD (8*k+6);have h7:=h.getD (8*k+7)
 unfold byt
 omega
variable {q:Int}{r:Int×Int}{R:List (Int×Int)}{T:List (qDU)}{op0:List Nat}{a clk clk0 k s t w x y:Nat}{pt0:Nat→Int}{cm cm0:Nat→Nat}{S:Nat→Prop}{b d p xs:qDU}
theorem qk3 {l:qDU}{x:Int}(h:k≠l.length/8):byt (l++[x]) k=byt l k:=by
 grind [byt]
theorem qpg {l:qDU}{x:Int}:byt (l++[x]) (l.length/8)=byt l (l.length/8)+x*2^(7-l.length%8):=by
 obtain ⟨k,hk⟩:∃ k,k=l.length/8:=⟨_,rfl⟩
 obtain ⟨r,hr⟩:∃ r,r=l.length%8:=⟨_,rfl⟩
 have hl:l.length=8*k+r:=by omega
 have hr8:r<8:=by omega
 rw[← hk,← hr]
 unfold byt
 simp only[qtH,hl]
 grind
theorem irem8 (n:Nat):irem (n:Int) 8=((n%8:Nat):Int):=by
 rfl
theorem iquo8 {n:Nat}(h:n≤9223372036854775807):iquo .i64 (n:Int) 8=((n/8:Nat):Int):=by
 grind [iquo,yk]
theorem qr5 {l:qDU}:byt l (l.length/8)%2^(8-l.length%8)=0:=by
 obtain ⟨k,hk⟩:∃ k,k=l.length/8:=⟨_,rfl⟩
 obtain ⟨r,hr⟩:∃ r,r=l.length%8:=⟨_,rfl⟩
 have hl:l.length=8*k+r:=by omega
 have hr8:r<8:=by omega
 rw[← hk,← hr]
 unfold byt
 grind
theorem qxv {l:qDU}(h:l.length%8=0):byt l (l.length/8)=0:=by
 grind [byt]
theorem qpB (k:IntKind)(a b:Int):ior k a b=ior k b a:=by grind [ior]
def room (l:qDU):qDU:=(qBx (l.length/8+1)).map (byt l)
theorem qsU {l:qDU}(hl:Bit l){x:Int}(hx:x=0∨x=1)(hn:l.length≤1000000):yZ F (l.length:Int) x (room l)=some (((l.length+1:Nat):Int),pk (l++[x])):=by
 unfold yZ
 rw[iquo8 (by omega),irem8]
 have hg:(room l)[l.length/8]?=some (byt l (l.length/8)):=by simp[room]
 rw[qo,hg]
 simp only[qBb]
 have hc:decide ((0:Int)≤((l.length%8:Nat):Int))=true:=decide_eq_true (by omega)
 rw[hc]
 simp only[chk,if_true,lett,qBh]
 have hb:=qjL hl (l.length/8)
 have hr8:l.length%8<8:=Nat.mod_lt _ (by decide)
 have e1:ishl .u64 x 7=x*128:=by
  have:=qlk (a:=x) (m:=7) (by decide)
  grind
 have e2:iconv .u8 (x*128)=x*128:=qti (by omega) (by omega)
 have e3:ishr .u8 (x*128) ((l.length%8:Nat):Int)=x*2^(7-l.length%8):=by
  rw[qhN (by grind [IntKind.bits])]
  have key:∀ r:Fin 8,((0:Int)*128/2^r.val=0*2^(7-r.val))∧((1:Int)*128/2^r.val=1*2^(7-r.val)):=by decide
  have:=key ⟨l.length%8,hr8⟩
  grind
 have key2:∀ r:Fin 8,(1:Int)≤2^(7-r.val)∧(2:Int)^(8-r.val)=2*2^(7-r.val)∧(2:Int)^(7-r.val)≤128∧(256:Int)%2^(8-r.val)=0∧(2:Int)^(8-r.val)≤256:=by decide
 have hk2:=key2 ⟨l.length%8,hr8⟩
 simp only at hk2
 have hat:=qpg (l:=l) (x:=x)
 have hb2:Bit (l++[x]):=by
  intro y hy
  rcases qBg.1 hy with h | h
  ·exact hl y h
  simp_all
 have hbb:=qjL hb2 (l.length/8)
 have e4:ior .u8 (byt l (l.length/8)) (x*2^(7-l.length%8))=byt (l++[x]) (l.length/8):=by
  rw[qpB,qsr (m:=8-l.length%8) ?_ ?_ hb.1 qr5 rfl ?_]
  ·omega
  ·grind
  ·grind
  grind [IntKind.bits]
 rw[e1,e2,e3,e4,zj (by omega) (by omega)]
 congr 2
 unfold room pk
 have hlen:((l++[x]).length+7)/8=l.length/8+1:=by grind
 rw[hlen]
 apply qBO
 grind [qk3]
theorem quE {l:qDU}(hl:Bit l){x:Int}(hx:x=0∨x=1)(hn:l.length≤1000000):jf F (l.length:Int) (pk l) x=some (((l.length+1:Nat):Int),pk (l++[x])):=by
 unfold jf
 rw[irem8]
 by_cases h:l.length%8=0
 ·have h1:((((l.length%8:Nat):Int):Int) == 0)=true:=by grind
  simp only[h1,if_true]
  rw[zU (by simp[pk];omega)]
  simp only[qBb]
  have:pk l++[0]=room l:=by
   grind [pk,room,List.range_succ,qxv]
  grind [qsU]
 ·have h1:((((l.length%8:Nat):Int):Int) == 0)=false:=by grind
  simp only[h1,qBq,if_false]
  have:pk l=room l:=by
   grind [pk,room]
  grind [qsU]
def bitAt (b:qDU)(i:Nat):Int:=b.getD (i/8) 0/2^(7-i%8)%2
def bl (b:qDU)(n:Nat):qDU:=(qBx n).map (bitAt b)
theorem qjK (b:qDU)(i:Nat):bitAt b i=0∨bitAt b i=1:=by unfold bitAt;omega
theorem qqK (b:qDU)(n:Nat):Bit (bl b n):=by
 intro x hx
 obtain ⟨i,_,rfl⟩:=qBI.1 hx
 exact qjK b i
theorem qgS (b:qDU)(n:Nat):(bl b n).length=n:=by simp[bl]
def U8s (l:qDU):Prop:=∀ n∈l,0≤n∧n<256
theorem quA {n:Int}(hb:U8s b){i:Nat}(hi:i/8<b.length)(hm:i≤1000000):qa1 F n b (i:Int)=some (bitAt b i):=by
 unfold qa1
 rw[iquo8 (by omega),irem8,qo]
 have hg:b[i/8]?=some b[i/8]:=by simp
 rw[hg]
 simp only[qBb]
 have e1:isub .i64 7 ((i%8:Nat):Int)=((7-i%8:Nat):Int):=by grind [zV]
 rw[e1]
 have hc:decide ((0:Int)≤((7-i%8:Nat):Int))=true:=decide_eq_true (by omega)
 rw[hc]
 simp only[chk,if_true,lett]
 have hx:=hb b[i/8] (qBu hi)
 rw[qhN (by grind [IntKind.bits])]
 have hp:(1:Int)≤2^(7-i%8):=by
  have key:∀ r:Fin 8,(1:Int)≤2^(7-r.val):=by decide
  exact key ⟨i%8,Nat.mod_lt _ (by decide)⟩
 have h1:0≤b[i/8]/2^(7-i%8):=Int.ediv_nonneg hx.1 (by omega)
 have h2:b[i/8]/2^(7-i%8)≤b[i/8]:=Int.ediv_le_self _ hx.1
 have e2:iconv .u64 (b[i/8]/2^(7-i%8))=b[i/8]/2^(7-i%8):=jC h1 (by omega)
 rw[e2]
 have e3:=qhM (k:=.u64) (a:=b[i/8]/2^(7-i%8)) (m:=1) h1 (by grind [IntKind.bits]) (by decide) rfl
 rw[show ((2^1-1:Nat):Int)=1 from rfl,show (2:Int)^1=2 from rfl] at e3
 grind [bitAt]
theorem qpO {F:Nat}{n:Int}{b:qDU}(hb:U8s b){yy:(Int×qDU)→Int→Option ((Int×qDU) ⊕ Empty)}(hy:∀ (l:qDU) x,Bit l→(x=0∨x=1)→l.length≤100000→yy ((l.length:Int),pk l) x=some (.inl (((l.length+1:Nat):Int),pk (l++[x])))){to:Nat}(ht:to≤8*b.length)(hm:to≤10000) :
  ∀ (k i:Nat) (l:qDU),to<k+i→i≤to→Bit l→l.length+(to-i)≤100000 →
   yT F yy (to:Int) n b k ((i:Int),((l.length:Int),pk l))=some (.inl (((l.length+(to-i):Nat):Int),pk (l++(bl b to).drop i)))
 | 0,i,l,h,hi,_,_=>by omega
 | k+1,i,l,h,hi,hl,hc=>by
  have hstep:yT F yy (to:Int) n b (k+1) ((i:Int),((l.length:Int),pk l))=qau F yy (to:Int) n b (yT F yy (to:Int) n b k) (i:Int) ((l.length:Int),pk l):=rfl
  rw[hstep]
  unfold qau
  by_cases hlt:i<to
  ·have h1:(i:Int)<(to:Int):=by omega
   simp only[h1,decide_true,if_true]
   rw[quA hb (by omega) (by omega)]
   simp only[qBb]
   have hx:=qjK b i
   rw[hy l _ hl hx (by omega)]
   simp only[qBb,Sum.elim_inl]
   rw[zj (by omega) (by omega),show (i:Int)+1=((i+1:Nat):Int) from by omega]
   have hl2:Bit (l++[bitAt b i]):=by
    intro y hy2
    rcases qBg.1 hy2 with h | h
    ·exact hl y h
    simp_all
   have:=qpO (F:=F) (n:=n) hb hy ht hm k (i+1) (l++[bitAt b i]) (by omega) (by omega) hl2 (by grind)
   grind [bl,qBj]
  ·have h1:¬ (i:Int)<(to:Int):=by omega
   simp only[h1,decide_false,qBq,if_false]
   grind [qgS]
structure Ok (n:Nat) (b:qDU):Prop where
 max:n≤8192
 len:b.length=(n+7)/8
 low:n%8≠0→b.getD (n/8) 0%2^(8-n%8)=0
theorem qxs {n i:Nat}:(bl b n).getD i 0=if i<n then bitAt b i else 0:=by
 grind [bl]
theorem bits8 {x:Int}(h0:0≤x)(h1:x<256):x/128%2*128+x/64%2*64+x/32%2*32+x/16%2*16+x/8%2*8+x/4%2*4+x/2%2*2+x/1%2=x:=by omega
theorem qrZ (b:qDU)(k:Nat):bitAt b (8*k)=b.getD k 0/128%2∧bitAt b (8*k+1)=b.getD k 0/64%2∧bitAt b (8*k+2)=b.getD k 0/32%2∧bitAt b (8*k+3)=b.getD k 0/16%2 ∧
  bitAt b (8*k+4)=b.getD k 0/8%2∧bitAt b (8*k+5)=b.getD k 0/4%2∧bitAt b (8*k+6)=b.getD k 0/2%2∧bitAt b (8*k+7)=b.getD k 0/1%2:=by
 unfold bitAt
 rw[show 8*k/8=k from by omega,show (8*k+1)/8=k from by omega,show (8*k+2)/8=k from by omega,show (8*k+3)/8=k from by omega,show (8*k+4)/8=k from by omega,show (8*k+5)/8=k from by omega,show (8*k+6)/8=k from by omega,show (8*k+7)/8=k from by omega,
  show 8*k%8=0 from by omega,show (8*k+1)%8=1 from by omega,show (8*k+2)%8=2 from by omega,show (8*k+3)%8=3 from by omega,show (8*k+4)%8=4 from by omega,show (8*k+5)%8=5 from by omega,show (8*k+6)%8=6 from by omega,show (8*k+7)%8=7 from by omega]
 omega
theorem qzF {n:Nat}(hb:U8s b)(h:Ok n b)(hk:k<(n+7)/8):byt (bl b n) k=b.getD k 0:=by
 have hx:0≤b.getD k 0∧b.getD k 0<256:=by
  have hlt:k<b.length:=by rw[h.len];exact hk
  have:=hb b[k] (qBu hlt)
  simpa[qDH,hlt] using this
 obtain ⟨c0,c1,c2,c3,c4,c5,c6,c7⟩:=qrZ b k
 unfold byt
 simp only[qxs]
 rw[c0,c1,c2,c3,c4,c5,c6,c7]
 by_cases hf:8*k+8≤n
 ·rw[if_pos (by omega),if_pos (by omega),if_pos (by omega),if_pos (by omega),if_pos (by omega),if_pos (by omega),if_pos (by omega),if_pos (by omega)]
  exact bits8 hx.1 hx.2
 ·have hkn:n/8=k:=by omega
  obtain ⟨r,hr⟩:∃ r,r=n%8:=⟨_,rfl⟩
  have hn:n=8*k+r:=by omega
  have hlow:=h.low (by omega)
  rw[hkn,← hr] at hlow
  generalize b.getD k 0=x at hx hlow
  rcases (by omega:r=1∨r=2∨r=3∨r=4∨r=5∨r=6∨r=7) with rfl | rfl | rfl | rfl | rfl | rfl | rfl
  ·rw[if_pos (by omega),if_neg (by omega),if_neg (by omega),if_neg (by omega),if_neg (by omega),if_neg (by omega),if_neg (by omega),if_neg (by omega)]
   rw[show (2:Int)^(8-1)=128 from by decide] at hlow
   omega
  ·rw[if_pos (by omega),if_pos (by omega),if_neg (by omega),if_neg (by omega),if_neg (by omega),if_neg (by omega),if_neg (by omega),if_neg (by omega)]
   rw[show (2:Int)^(8-2)=64 from by decide] at hlow
   omega
  ·rw[if_pos (by omega),if_pos (by omega),if_pos (by omega),if_neg (by omega),if_neg (by omega),if_neg (by omega),if_neg (by omega),if_neg (by omega)]
   rw[show (2:Int)^(8-3)=32 from by decide] at hlow
   omega
  ·rw[if_pos (by omega),if_pos (by omega),if_pos (by omega),if_pos (by omega),if_neg (by omega),if_neg (by omega),if_neg (by omega),if_neg (by omega)]
   rw[show (2:Int)^(8-4)=16 from by decide] at hlow
   omega
  ·rw[if_pos (by omega),if_pos (by omega),if_pos (by omega),if_pos (by omega),if_pos (by omega),if_neg (by omega),if_neg (by omega),if_neg (by omega)]
   rw[show (2:Int)^(8-5)=8 from by decide] at hlow
   omega
  ·rw[if_pos (by omega),if_pos (by omega),if_pos (by omega),if_pos (by omega),if_pos (by omega),if_pos (by omega),if_neg (by omega),if_neg (by omega)]
   rw[show (2:Int)^(8-6)=4 from by decide] at hlow
   omega
  ·rw[if_pos (by omega),if_pos (by omega),if_pos (by omega),if_pos (by omega),if_pos (by omega),if_pos (by omega),if_pos (by omega),if_neg (by omega)]
   rw[show (2:Int)^(8-7)=2 from by decide] at hlow
   omega
theorem qvY {n:Nat}(hb:U8s b)(h:Ok n b):pk (bl b n)=b:=by
 unfold pk
 rw[qgS]
 apply qBO
 intro k
 by_cases hk:k<(n+7)/8
 ·rw[qCr,qDl hk]
  simp only[qCh]
  rw[qzF hb h hk]
  have hlt:k<b.length:=by rw[h.len];omega
  simp_all
 ·rw[qDe (by grind),qDe (by rw[h.len];omega)]
def chkOf (n:Int)(b:qDU):Int :=
 if n<0∨8192<n then 3 else if (b.length:Int)≠(n+7)/8 then 1 else if n%8≠0∧b.getD (n.toNat/8) 0%2^(8-n.toNat%8)≠0 then 1 else 0
theorem quK {n:Int}(h:chkOf n b=0):∃ m:Nat,n=m∧Ok m b:=by
 unfold chkOf at h
 split at h
 ·omega
 ·rename_i h1
  split at h
  ·omega
  ·rename_i h2
   split at h
   ·omega
   ·rename_i h3
    obtain ⟨m,rfl⟩:=qBf (show 0≤n by omega)
    refine ⟨m,rfl,by omega,by omega,fun hm=>?_⟩
    grind
theorem qk4 {n:Int}(hb:U8s b)(h1:-9223372036854775808≤n)(h2:n<9223372036854775808)(hm:b.length≤9223372036854775807):qbL F n b=some (chkOf n b):=by
 unfold qbL chkOf
 by_cases c1:n<0∨8192<n
 ·have:(decide (n<0) || decide (8192<n))=true:=by simpa using c1
  rw[if_pos this,if_pos c1]
 ·have:(decide (n<0) || decide (8192<n))=false:=by simpa using c1
  rw[this,if_neg c1]
  simp only[qBq,if_false]
  obtain ⟨m,rfl⟩:=qBf (show 0≤n by omega)
  have e1:iquo .i64 (iadd .i64 (m:Int) 7) 8=((m:Int)+7)/8:=by
   rw[zj (by omega) (by omega),show (m:Int)+7=((m+7:Nat):Int) from by omega,iquo8 (by omega)]
   omega
  rw[e1,irem8]
  by_cases c2:(b.length:Int)≠((m:Int)+7)/8
  ·have:((b.length:Int) != ((m:Int)+7)/8)=true:=by simpa using c2
   rw[if_pos this,if_pos c2]
  ·have:((b.length:Int) != ((m:Int)+7)/8)=false:=by simpa using c2
   rw[this,if_neg c2]
   simp only[qBq,if_false]
   by_cases c3:m%8=0
   ·have:((((m%8:Nat):Int)) != 0)=false:=by simp[c3]
    have hn:¬ ((m:Int)%8≠0∧b.getD ((m:Int).toNat/8) 0%2^(8-(m:Int).toNat%8)≠0):=fun h=>h.1 (by omega)
    rw[this,if_neg hn]
    simp[qaN]
   ·have:((((m%8:Nat):Int)) != 0)=true:=by simp;omega
    rw[this]
    simp only[if_true]
    have hlen:b.length=m/8+1:=by omega
    have e2:isub .i64 (b.length:Int) 1=((m/8:Nat):Int):=by rw[zV (by omega) (by omega)];omega
    have hg:b[m/8]?=some b[m/8]:=by simp[hlen]
    rw[e2,qo,hg]
    simp only[qBb]
    have hc:decide ((0:Int)≤((m%8:Nat):Int))=true:=decide_eq_true (by omega)
    rw[hc]
    simp only[chk,if_true]
    have hx:=hb b[m/8] (qBu (by omega))
    have hgd:b.getD (m/8) 0=b[m/8]:=by simp[qDH,hg]
    rw[qBh,hgd]
    generalize b[m/8]=x at hx
    have e3:(ishl .u8 x ((m%8:Nat):Int) != 0)=decide (x%2^(8-m%8)≠0):=by
     have key:ishl .u8 x ((m%8:Nat):Int)=(x*2^(m%8))%256:=by
      unfold ishl
      have h:min (((m%8:Nat):Int).toNat) (IntKind.bits .u8)=m%8:=by simp[IntKind.bits];omega
      rw[h,qqt]
     rw[key]
     rcases (by omega:m%8=1∨m%8=2∨m%8=3∨m%8=4∨m%8=5∨m%8=6∨m%8=7) with h | h | h | h | h | h | h <;> rw[h]
     ·rw[show (2:Int)^1=2 from rfl,show (2:Int)^(8-1)=128 from by decide];by_cases hz:x%128=0 <;> simp[hz] <;> omega
     ·rw[show (2:Int)^2=4 from rfl,show (2:Int)^(8-2)=64 from by decide];by_cases hz:x%64=0 <;> simp[hz] <;> omega
     ·rw[show (2:Int)^3=8 from rfl,show (2:Int)^(8-3)=32 from by decide];by_cases hz:x%32=0 <;> simp[hz] <;> omega
     ·rw[show (2:Int)^4=16 from by decide];try rw[show (2:Int)^(8-4)=16 from by decide]
      by_cases hz:x%16=0 <;> simp[hz] <;> omega
     ·rw[show (2:Int)^5=32 from by decide,show (2:Int)^(8-5)=8 from by decide];by_cases hz:x%8=0 <;> simp[hz] <;> omega
     ·rw[show (2:Int)^6=64 from by decide,show (2:Int)^(8-6)=4 from by decide];by_cases hz:x%4=0 <;> simp[hz] <;> omega
     ·rw[show (2:Int)^7=128 from by decide,show (2:Int)^(8-7)=2 from by decide];by_cases hz:x%2=0 <;> simp[hz] <;> omega
    rw[e3]
    unfold qaN
    by_cases hz:x%2^(8-m%8)=0
    ·rw[if_neg (by simp[hz]),if_neg (by simp[hz])]
    ·rw[if_pos (by simp[hz]),if_pos ⟨by omega,hz⟩]
theorem quM {x:qDU}(h:x.length≤1000000):yW F x=some x:=by
 grind [yW,zU]
theorem qvQ {n:Int}(h:b.length≤1000000):qe9 F n b=some (n,b):=by
 grind [qe9,quM]
theorem qnJ (hF:20000≤F){n m:Nat}{a:qDU}(ha:U8s a)(hb:U8s b)(oa:Ok n a)(ob:Ok m b):qal F n a m b=some (((n+m:Nat):Int),pk (bl a n++bl b m)):=by
 unfold qal
 have hal:a.length≤1000000:=by rw[oa.len];have:=oa.max;omega
 rw[qvQ hal]
 simp only[qBb,qfX,qen]
 have hm:=ob.max
 have hn:=oa.max
 have:=qpO (F:=F) (n:=(m:Int)) hb (yy:=fun (p:Int×qDU) (x53:Int)=>qcM F p.1 p.2 x53) (fun l x hl hx hlen=>by
  grind [qcM,quE]) (to:=m) (by rw[ob.len];omega) (by omega) F 0 (bl a n) (by omega) (by omega) (qqK a n) (by rw[qgS];omega)
 rw[qgS,qvY ha oa,qBL,Nat.sub_zero] at this
 simp_all
def I64 (n:Int):Prop:=-9223372036854775808≤n∧n<9223372036854775808
theorem qsB {l:qDU}(hk:k<(l.length+7)/8):(pk l).getD k 0=byt l k:=by
 grind [pk]
theorem qic {l:qDU}(h:Bit l):U8s (pk l):=by
 intro x hx
 obtain ⟨k,_,rfl⟩:=qBI.1 hx
 exact qjL h k
theorem qjZ (l:qDU):(pk l).length=(l.length+7)/8:=by simp[pk]
theorem qlt {l:qDU}(hm:l.length≤8192):Ok l.length (pk l) where
 max:=hm
 len:=qjZ l
 low:=fun h=>by
  grind [qsB,qr5]
theorem qpd {l:qDU}(h:Bit l){i:Nat}(hi:i<l.length):bitAt (pk l) i=l.getD i 0:=by
 obtain ⟨k,hk⟩:∃ k,k=i/8:=⟨_,rfl⟩
 obtain ⟨r,hr⟩:∃ r,r=i%8:=⟨_,rfl⟩
 have hl:i=8*k+r:=by omega
 have hr8:r<8:=by omega
 obtain ⟨c0,c1,c2,c3,c4,c5,c6,c7⟩:=qrZ (pk l) k
 have hb:(pk l).getD k 0=byt l k:=qsB (by omega)
 rw[hb] at c0 c1 c2 c3 c4 c5 c6 c7
 have hbd:∀ q,0≤l.getD q 0∧l.getD q 0≤1:=fun q=>by have:=h.getD q;omega
 have h0:=hbd (8*k);have h1:=hbd (8*k+1);have h2:=hbd (8*k+2);have h3:=hbd (8*k+3)
 have h4:=hbd (8*k+4);have h5:=hbd (8*k+5);have h6:=hbd (8*k+6);have h7:=hbd (8*k+7)
 clear hbd hb
 unfold byt at c0 c1 c2 c3 c4 c5 c6 c7
 rcases (by omega:r=0∨r=1∨r=2∨r=3∨r=4∨r=5∨r=6∨r=7) with rfl | rfl | rfl | rfl | rfl | rfl | rfl | rfl
 ·rw[hl,Nat.add_zero,c0];clear c0 c1 c2 c3 c4 c5 c6 c7;generalize l.getD (8*k) 0=y0 at *;generalize l.getD (8*k+1) 0=y1 at *;generalize l.getD (8*k+2) 0=y2 at *;generalize l.getD (8*k+3) 0=y3 at *;generalize l.getD (8*k+4) 0=y4 at *;generalize l.getD (8*k+5) 0=y5 at *;generalize l.getD (8*k+6) 0=y6 at *;generalize l.getD (8*k+7) 0=y7 at *;clear h hi hl hr hk hr8;omega
 ·rw[hl,c1];clear c0 c1 c2 c3 c4 c5 c6 c7;generalize l.getD (8*k) 0=y0 at *;generalize l.getD (8*k+1) 0=y1 at *;generalize l.getD (8*k+2) 0=y2 at *;generalize l.getD (8*k+3) 0=y3 at *;generalize l.getD (8*k+4) 0=y4 at *;generalize l.getD (8*k+5) 0=y5 at *;generalize l.getD (8*k+6) 0=y6 at *;generalize l.getD (8*k+7) 0=y7 at *;clear h hi hl hr hk hr8;omega
 ·rw[hl,c2];clear c0 c1 c2 c3 c4 c5 c6 c7;generalize l.getD (8*k) 0=y0 at *;generalize l.getD (8*k+1) 0=y1 at *;generalize l.getD (8*k+2) 0=y2 at *;generalize l.getD (8*k+3) 0=y3 at *;generalize l.getD (8*k+4) 0=y4 at *;generalize l.getD (8*k+5) 0=y5 at *;generalize l.getD (8*k+6) 0=y6 at *;generalize l.getD (8*k+7) 0=y7 at *;clear h hi hl hr hk hr8;omega
 ·rw[hl,c3];clear c0 c1 c2 c3 c4 c5 c6 c7;generalize l.getD (8*k) 0=y0 at *;generalize l.getD (8*k+1) 0=y1 at *;generalize l.getD (8*k+2) 0=y2 at *;generalize l.getD (8*k+3) 0=y3 at *;generalize l.getD (8*k+4) 0=y4 at *;generalize l.getD (8*k+5) 0=y5 at *;generalize l.getD (8*k+6) 0=y6 at *;generalize l.getD (8*k+7) 0=y7 at *;clear h hi hl hr hk hr8;omega
 ·rw[hl,c4];clear c0 c1 c2 c3 c4 c5 c6 c7;generalize l.getD (8*k) 0=y0 at *;generalize l.getD (8*k+1) 0=y1 at *;generalize l.getD (8*k+2) 0=y2 at *;generalize l.getD (8*k+3) 0=y3 at *;generalize l.getD (8*k+4) 0=y4 at *;generalize l.getD (8*k+5) 0=y5 at *;generalize l.getD (8*k+6) 0=y6 at *;generalize l.getD (8*k+7) 0=y7 at *;clear h hi hl hr hk hr8;omega
 ·rw[hl,c5];clear c0 c1 c2 c3 c4 c5 c6 c7;generalize l.getD (8*k) 0=y0 at *;generalize l.getD (8*k+1) 0=y1 at *;generalize l.getD (8*k+2) 0=y2 at *;generalize l.getD (8*k+3) 0=y3 at *;generalize l.getD (8*k+4) 0=y4 at *;generalize l.getD (8*k+5) 0=y5 at *;generalize l.getD (8*k+6) 0=y6 at *;generalize l.getD (8*k+7) 0=y7 at *;clear h hi hl hr hk hr8;omega
 ·rw[hl,c6];clear c0 c1 c2 c3 c4 c5 c6 c7;generalize l.getD (8*k) 0=y0 at *;generalize l.getD (8*k+1) 0=y1 at *;generalize l.getD (8*k+2) 0=y2 at *;generalize l.getD (8*k+3) 0=y3 at *;generalize l.getD (8*k+4) 0=y4 at *;generalize l.getD (8*k+5) 0=y5 at *;generalize l.getD (8*k+6) 0=y6 at *;generalize l.getD (8*k+7) 0=y7 at *;clear h hi hl hr hk hr8;omega
 ·rw[hl,c7];clear c0 c1 c2 c3 c4 c5 c6 c7;generalize l.getD (8*k) 0=y0 at *;generalize l.getD (8*k+1) 0=y1 at *;generalize l.getD (8*k+2) 0=y2 at *;generalize l.getD (8*k+3) 0=y3 at *;generalize l.getD (8*k+4) 0=y4 at *;generalize l.getD (8*k+5) 0=y5 at *;generalize l.getD (8*k+6) 0=y6 at *;generalize l.getD (8*k+7) 0=y7 at *;clear h hi hl hr hk hr8;omega
theorem qhb {l:qDU}(h:Bit l):bl (pk l) l.length=l:=by
 apply qBO
 grind [bl,qpd]
theorem qpi {n:Nat}(h:Ok n b):chkOf (n:Int) b=0:=by
 unfold chkOf
 have:=h.max
 have:=h.len
 rw[if_neg (by omega),if_neg (by omega),if_neg]
 rintro ⟨h1,h2⟩
 rw[qBh] at h2
 exact h2 (h.low (by omega))
theorem qxt {n m:Nat}(h:n≤m):(bl b m).take n=bl b n:=by
 unfold bl
 rw[← List.map_take,List.take_range,qC0 h]
theorem vl {l k:qDU}(h:Bit l)(h2:Bit k):Bit (l++k):=by
 intro x hx
 rcases qBg.1 hx with h3 | h3
 ·exact h x h3
 ·exact h2 x h3
theorem two64:(2:Nat)^64=18446744073709551616:=by decide
theorem qn5 {n:Nat}(hn:n<18446744073709551616):ishr .u64 (n:Int) (k:Int)=((n/2^k:Nat):Int):=by
 unfold ishr
 rw[Int.fdiv_eq_ediv_of_nonneg _ (by grind),qBh]
 simp only[IntKind.bits]
 by_cases h:k≤64
 ·simp_all
 ·rw[Nat.min_eq_right (by omega)]
  have h1:n/2^64=0:=qDE (by omega)
  have h2:n/2^k=0:=qDE (qC4 hn (by rw[← two64];exact qBP (by decide) (by omega)))
  omega
theorem qxS {n:Nat}(hn:n<18446744073709551616):iand .u64 (n:Int) 1=((n%2:Nat):Int):=by
 have e:=qhM (k:=.u64) (a:=(n:Int)) (m:=1) (by omega) (by grind [IntKind.bits]) (by decide) rfl
 simp_all
theorem qq4 {n:Nat}(hk:k≤64):ishl .u64 (n:Int) (k:Int)=((n*2^k%18446744073709551616:Nat):Int):=by
 grind [qlk]
theorem qAP {b m:Nat}(ha:a<2^m)(hb:b%2^m=0)(h:a+b<18446744073709551616):ior .u64 (b:Int) (a:Int)=((b+a:Nat):Int):=by
 rw[qpB,qsr (m:=m) (by omega) (by exact_mod_cast ha) (by omega) (by exact_mod_cast hb) rfl (by grind [IntKind.bits])]
 omega
theorem qb3 {b:Nat}(h:a+b<9223372036854775808):iadd .i64 (a:Int) (b:Int)=((a+b:Nat):Int):=by grind [zj]
theorem qs (h:a+1<9223372036854775808):iadd .i64 (a:Int) 1=((a+1:Nat):Int):=by grind [zj]
theorem qq6 {b:Nat}(h:b≤a)(h2:a<9223372036854775808):isub .i64 (a:Int) (b:Int)=((a-b:Nat):Int):=by grind [zV]
theorem qd5 (h:1≤a)(h2:a<9223372036854775808):isub .i64 (a:Int) 1=((a-1:Nat):Int):=by grind [zV]
def nb (n:Nat):Nat→qDU
 | 0=>[]
 | w+1=>((n/2^w%2:Nat):Int)::nb n w
theorem qdl (n:Nat):∀ w,(nb n w).length=w
 | 0=>rfl
 | w+1=>by simp[nb,qdl n w]
theorem qlr (n:Nat):∀ w,Bit (nb n w)
 | 0=>by intro x hx;simp[nb] at hx
 | w+1=>by
  intro x hx
  rcases qBi.1 hx with rfl | h
  ·omega
  ·exact qlr n w x h
def bv (l:qDU):Nat:=l.foldl (fun n b=>2*n+b.toNat) 0
theorem qxu (l:qDU):∀ m,l.foldl (fun n b=>2*n+b.toNat) m=m*2^l.length+bv l:=by
 induction l with
 | nil=>intro m;simp[bv]
 | cons x l ih =>
  intro m
  show l.foldl _ _=_
  rw[ih]
  show _=_+l.foldl _ _
  grind
theorem qzE (l k:qDU):bv (l++k)=bv l*2^k.length+bv k:=by
 grind [bv,qxu]
theorem qnK (x:Int)(l:qDU):bv (x::l)=x.toNat*2^l.length+bv l:=by
 have:=qzE [x] l
 simpa[bv] using this
theorem qr3 {l:qDU}(h:Bit l):bv l<2^l.length:=by
 induction l with
 | nil=>simp[bv]
 | cons x l ih =>
  have h1:=ih (fun y hy=>h y (qBt _ hy))
  rw[qnK,qBA,qDF]
  rcases h x qBp with rfl | rfl
  ·simp;omega
  ·simp;omega
theorem qk2 (n:Nat):∀ w,bv (nb n w)=n%2^w
 | 0=>by simp[nb,bv,Nat.mod_one]
 | w+1=>by
  rw[nb,qnK,qdl,qk2 n w,qBh,qDF,Nat.mod_mul,Nat.mul_comm,qCJ]
theorem qvF (n a:Nat):∀ b,nb n (b+a)=nb (n/2^a) b++nb n a
 | 0=>by simp[nb]
 | b+1=>by
  rw[show b+1+a=(b+a)+1 from by omega,nb,qvF n a b,nb,qB2]
  congr 3
  grind [Nat.div_div_eq_div_mul]
theorem qx0 (n w:Nat):nb n (w+1)=nb (n/2) w++[((n%2:Nat):Int)]:=by
 have:=qvF n 1 w
 simpa[nb] using this
theorem qpH {F:Nat}{n:Nat}(hn:n<18446744073709551616):∀ (w k:Nat) (l:qDU),w<k→Bit l→l.length+w≤100000 →
  jU F (n:Int) k ((w:Int)-1,(l.length:Int),pk l)=some (((l.length+w:Nat):Int),pk (l++nb n w))
 | _,0,_,h,_,_=>by omega
 | 0,k+1,l,_,_,_=>by
  show yc F (n:Int) _ (((0:Nat):Int)-1) (l.length:Int) (pk l)=_
  grind [yc,nb]
 | w+1,k+1,l,h,hl,hm=>by
  show yc F (n:Int) (jU F (n:Int) k) (((w+1:Nat):Int)-1) (l.length:Int) (pk l)=_
  unfold yc
  rw[show ((w+1:Nat):Int)-1=(w:Int) from by omega,if_pos (by simp)]
  have hc:decide ((0:Int)≤(w:Int))=true:=decide_eq_true (by omega)
  rw[hc]
  simp only[chk,if_true]
  rw[qn5 hn,qxS (by have:=qCF n (2^w);omega)]
  have hx:((n/2^w%2:Nat):Int)=0∨((n/2^w%2:Nat):Int)=1:=by omega
  rw[quE hl hx (by omega)]
  simp only[qBb]
  rw[zV (by omega) (by omega)]
  have:=qpH (F:=F) hn w k (l++[((n/2^w%2:Nat):Int)]) (by omega) (vl hl (by intro y hy;simp_all)) (by grind)
  rw[show (l++[((n/2^w%2:Nat):Int)]).length=l.length+1 from by simp] at this
  rw[this,qBn,show l.length+1+w=l.length+(w+1) from by omega]
  rfl
theorem qtO {n:Nat}{l:qDU}(hn:n<18446744073709551616)(hF:w<F)(hl:Bit l)(hm:l.length+w≤100000) :
  jg F (l.length:Int) (pk l) (n:Int) (w:Int)=some (((l.length+w:Nat):Int),pk (l++nb n w)):=by
 unfold jg
 rw[zV (by omega) (by omega)]
 grind [qpH]
theorem qzv {n m:Nat}(hn:n<18446744073709551616)(hF:w<F)(hb:U8s b)(ob:Ok m b)(hw:w≤10000) :
  vG F (m:Int) b (n:Int) (w:Int)=some (((m+w:Nat):Int),pk (bl b m++nb n w)):=by
 unfold vG
 have:=ob.max
 rw[qvQ (by rw[ob.len];omega)]
 grind [qtO,qqK,qgS,qvY]
def putOf (m:Int)(b:qDU)(n w:Int):Int :=
 if chkOf m b≠0 then chkOf m b else if w<0∨64<w∨2^w.toNat≤n then 3 else if 8192<m+w then 8 else 0
def pt (m:Int)(b:qDU)(n w:Int):Int×qDU×Int :=
 if putOf m b n w≠0 then (0,[],putOf m b n w) else (m+w,pk (bl b m.toNat++nb n.toNat w.toNat),0)
def U64 (n:Int):Prop:=0≤n∧n<18446744073709551616
theorem qzD {n i:Nat}(h:i<n):(bl b n)[i]?=some (bitAt b i):=by simp[bl,h]
theorem qwd {F:Nat}{n:Int}{m a w:Nat}{b:qDU}(hb:U8s b)(hlen:m≤8*b.length)(hm:m≤10000)(ha:a+w≤m)(hw:w≤64):∀ (k i v:Nat),w<k+i→i≤w→v<2^i →
  qe8 F n b (a:Int) (w:Int) k ((v:Int),(i:Int))=some (((v*2^(w-i)+bv (((bl b m).drop (a+i)).take (w-i)):Nat):Int),true)
 | 0,_,_,_,_,_=>by omega
 | k+1,i,v,h,hi,hv=>by
  show qe6 F n b (a:Int) (w:Int) (qe8 F n b (a:Int) (w:Int) k) (v:Int) (i:Int)=_
  unfold qe6
  by_cases hlt:i<w
  ·rw[if_pos (by simp_all),qb3 (by omega),quA hb (by omega) (by omega)]
   simp only[qBb]
   have hx:=qjK b (a+i)
   have hv64:2*v+1<18446744073709551616:=by
    have:2^(i+1)≤2^64:=qBP (by decide) (by omega)
    omega
   obtain ⟨x,hxe⟩:∃ x:Nat,bitAt b (a+i)=(x:Int):=qBf (by omega)
   have hx1:x<2:=by omega
   have e1:ishl .u64 (v:Int) 1=((v*2:Nat):Int):=by
    have:=qq4 (n:=v) (k:=1) (by decide)
    grind
   have e2:ior .u64 ((v*2:Nat):Int) (x:Int)=((v*2+x:Nat):Int):=qAP (m:=1) (by omega) (by omega) (by omega)
   rw[hxe,e1,e2,qs (by omega)]
   rw[qwd hb hlen hm ha hw k (i+1) (v*2+x) (by omega) (by omega) (by omega)]
   have hd:((bl b m).drop (a+i)).take (w-i)=(x:Int)::((bl b m).drop (a+(i+1))).take (w-(i+1)):=by
    rw[qBj (by rw[qgS];omega),show w-i=(w-(i+1))+1 from by omega,List.take_succ_cons,show a+i+1=a+(i+1) from by omega]
    congr 1
    have:=qzD (b:=b) (n:=m) (i:=a+i) (by omega)
    grind
   rw[hd,qnK,qBh]
   have hl:(((bl b m).drop (a+(i+1))).take (w-(i+1))).length=w-(i+1):=by simp[qgS];omega
   rw[hl,show w-i=(w-(i+1))+1 from by omega,qDF,Nat.add_mul]
   grind
  ·rw[if_neg (by simp_all)]
   rw[show w-i=0 from by omega]
   simp[qe7,bv]
theorem qyb {m:Nat}(hF:100≤F)(hb:U8s b)(ob:Ok m b)(ha:a≤m)(hw:w≤64) :
  je F (m:Int) b (a:Int) (w:Int)=some (if a+w≤m then (((bv (((bl b m).drop a).take w):Nat):Int),true) else (0,false)):=by
 unfold je
 have hmx:=ob.max
 rw[qq6 ha (by omega)]
 by_cases h:a+w≤m
 ·rw[if_neg (by grind),if_pos h]
  have:=qwd (F:=F) (n:=(m:Int)) (m:=m) (a:=a) (w:=w) hb (by rw[ob.len];omega) (by omega) h hw F 0 0 (by omega) (by omega) (by decide)
  simp_all
 grind
theorem qej {n:Nat}(h:n<9223372036854775808):iconv .i64 (n:Int)=(n:Int):=yk (by omega) (by omega)
theorem vz {n:Nat}(h:n<18446744073709551616):iconv .u64 (n:Int)=(n:Int):=jC (by omega) (by omega)
theorem qAH {l:qDU}(h:Bit l){i:Nat}(hi:i<l.length):∃ x:Nat,l[i]?=some (x:Int)∧x<2:=by
 have:=h l[i] (qBu hi)
 obtain ⟨x,hx⟩:=qBf (show 0≤l[i] by omega)
 grind
theorem qkp {α:Type}{l:List α}{i j:Nat}(h1:i≤j)(h2:j≤l.length):sub l (i:Int) (j:Int)=some ((l.take j).drop i):=by
 grind [sub]
theorem qhu {l:qDU}(h:Bit l)(i:Nat):Bit (l.drop i):=fun x hx=>h x (List.mem_of_mem_drop hx)
theorem qi6 {l:qDU}(h:Bit l)(i:Nat):Bit (l.take i):=fun x hx=>h x (List.mem_of_mem_take hx)
theorem qk5 {n:Int}(hb:U8s b):chkOf n b≠0∨∃ l:qDU,Bit l∧l.length≤8192∧n=(l.length:Int)∧b=pk l:=by
 by_cases h:chkOf n b=0
 ·obtain ⟨m,rfl,ob⟩:=quK h
  exact .inr ⟨bl b m,qqK _ _,by rw[qgS];exact ob.max,by rw[qgS],(qvY hb ob).symm⟩
 omega
theorem qk6 {l:qDU}(hm:l.length≤8192):chkOf (l.length:Int) (pk l)=0:=qpi (qlt hm)
theorem qsC {l:qDU}(h:l.length≤8192):(pk l).length≤9223372036854775807:=by rw[qjZ];omega
theorem qpN {l:qDU}(h:l.length≤8192):(pk l).length≤2000:=by rw[qjZ];omega
theorem qvZ {l k:qDU}(hl:Bit l)(hk:Bit k)(h:l.length=k.length)(e:pk l=pk k):l=k:=by
 grind [qhb]
def un (n:Nat):qDU:=qBd n 0++[1]
theorem qiK (n:Nat):(un n).length=n+1:=by simp[un]
theorem qgR (n:Nat):Bit (qBd n 0):=by intro x hx;simp_all
theorem qr0:Bit [1]:=by intro x hx;simp_all
theorem qoI (n:Nat):Bit (un n):=vl (qgR n) qr0
theorem qz5 (n:Nat):pk (qBd n 0)=qBd ((n+7)/8) 0:=by
 unfold pk
 rw[qBT]
 apply qBO
 grind [byt]
theorem qix {n:Nat}{l:qDU}(hn:n<18446744073709551616)(hF:w<F)(hl:Bit l)(hm:l.length≤8192)(hw:w≤10000) :
  vG F (l.length:Int) (pk l) (n:Int) (w:Int)=some (((l++nb n w).length:Int),pk (l++nb n w)):=by
 grind [qzv,qic,qlt,qhb,qdl]
theorem qwa {n:Nat}(hF:20000≤F)(hn:n<8192):qeh F (n:Int)=some (((un n).length:Int),pk (un n)):=by
 unfold qeh
 have e:iquo .u64 (iadd .u64 (n:Int) 7) 8=(((n+7)/8:Nat):Int):=by
  grind [iquo,iadd,jC]
 rw[e]
 have hmk:mk 140737488355328 (0:Int) (((n+7)/8:Nat):Int)=some (pk (qBd n 0)):=by
  unfold mk
  rw[if_pos (by omega),qBh,qz5]
 rw[hmk]
 simp only[qBb]
 rw[qej (by omega)]
 have h:=qix (F:=F) (n:=1) (w:=1) (l:=qBd n 0) (by decide) (by omega) (qgR n) (by grind) (by decide)
 rw[qBT] at h
 rw[show ((1:Nat):Int)=1 from rfl] at h
 rw[h]
 rfl
def fz:qDU→Option Nat
 | []=>none
 | x::l=>if x=1 then some 0 else (fz l).map (·+1)
theorem qy5 (n:Nat)(r:qDU):fz (un n++r)=some n:=by
 induction n with
 | zero=>rfl
 | succ n ih =>
  grind [un,fz]
theorem qy4 {l:qDU}{n:Nat}(h:fz l=some n):n<l.length:=by
 induction l generalizing n with
 | nil=>simp[fz] at h
 | cons x l ih =>
  unfold fz at h
  split at h
  ·grind
  ·cases hf:fz l with
   | none=>simp_all
   | some m=>grind
theorem qpc {m:Int}{l:qDU}(hl:Bit l)(hm:l.length≤90000){i:Nat}(hi:i<l.length):qa1 F m (pk l) (i:Int)=some l[i]:=by
 grind [quA,qic,qjZ,qpd]
theorem qvb {F:Nat}{l:qDU}(hl:Bit l)(hm:l.length≤8192)(a:Nat):∀ (k i:Nat),l.length<k+i→i≤l.length→a≤i →
  qeJ F (l.length:Int) (pk l) (a:Int) k (i:Int)=some (match fz (l.drop i) with | none=>(0,0,false) | some n=>(((i-a+n:Nat):Int),((i+n+1:Nat):Int),true))
 | 0,_,_,_,_=>by omega
 | k+1,i,h,hi,ha=>by
  show qeI F (l.length:Int) (pk l) (a:Int) (qeJ F (l.length:Int) (pk l) (a:Int) k) (i:Int)=_
  unfold qeI
  by_cases hlt:i<l.length
  ·rw[if_pos (by simp_all),qpc hl (by omega) hlt,qBj hlt,fz]
   simp only[qBb]
   by_cases h1:l[i]=1
   ·grind [qq6,vz,qs]
   ·rw[if_neg (by grind),if_neg h1,qs (by omega),qvb hl hm a k (i+1) (by omega) (by omega) (by omega)]
    grind
  ·rw[if_neg (by simp_all),qBm (by omega)]
   rfl
theorem qsk (hF:20000≤F){l:qDU}(hl:Bit l)(hm:l.length≤8192)(ha:a≤l.length) :
  qde F (l.length:Int) (pk l) (a:Int)=some (match fz (l.drop a) with | none=>(0,0,false) | some n=>((n:Int),((a+n+1:Nat):Int),true)):=by
 unfold qde
 have:=qvb (F:=F) hl hm a F a (by omega) ha (by omega)
 simp_all
def raOf (m:Int)(b:qDU)(a:Int):Int:=if chkOf m b≠0 then chkOf m b else if a<0∨m<a then 3 else 0
theorem qr1 (hF:20000≤F){l k:qDU}(hl:Bit l)(hk:Bit k)(h1:l.length≤8192)(h2:k.length≤8192) :
  qal F (l.length:Int) (pk l) (k.length:Int) (pk k)=some (((l++k).length:Int),pk (l++k)):=by
 grind [qnJ,qic,qlt,qhb]
def len (x:Nat):Nat:=if x=0 then 0 else x.log2+1
theorem qgf:len x≤k↔x<2^k:=by
 grind [len,Nat.log2_lt]
theorem qlp (h1:x<2^k)(h2:k=0∨2^(k-1)≤x):len x=k:=by
 have h3:=qgf.2 h1
 rcases h2 with rfl | h2
 ·omega
 ·by_cases h4:len x≤k-1
  ·have:=qgf.1 h4;omega
  ·omega
theorem qra:x<2^len x:=qgf.1 (qBo _)
theorem qq9 (h:x≠0):2^(len x-1)≤x:=by
 have h1:1≤len x:=by grind [len]
 apply Nat.le_of_not_lt
 intro h2
 have:=qgf.2 h2
 omega
theorem qn8 (h:x≠0):1≤len x:=by grind [len]
theorem qjV (h:2^k≤x):len (x/2^k)+k=len x:=by
 have hp:0<2^k:=qCH (by decide)
 have hx:x≠0:=by omega
 have hd:x/2^k≠0:=by
  simp_all
 symm
 apply qlp
 ·grind [qra,Nat.div_lt_iff_lt_mul]
 ·right
  have h1:=qn8 hd
  have:=qq9 hd
  rw[show len (x/2^k)+k-1=len (x/2^k)-1+k from by omega,qDQ]
  grind [Nat.le_div_iff_mul_le]
theorem qxV:∀ x:Fin 256,∀ k:Fin 8,va 0 ((x.val:Nat):Int) ((8*k.val:Nat):Int)=some ((len x.val+8*k.val:Nat):Int):=by decide +kernel
theorem qsu (hx:x<256)(hk:k≤56)(h8:k%8=0):va F (x:Int) (k:Int)=some ((len x+k:Nat):Int):=by
 have h:=qxV ⟨x,hx⟩ ⟨k/8,by omega⟩
 simp only at h
 rw[show 8*(k/8)=k from by omega] at h
 exact h
theorem qst (hx:x<65536)(hk:k≤48)(h8:k%8=0):y9 F (x:Int) (k:Int)=some ((len x+k:Nat):Int):=by
 unfold y9
 by_cases h:256≤x
 ·have e:=qn5 (n:=x) (k:=8) (by omega)
  rw[show ((8:Nat):Int)=8 from rfl] at e
  have e2:iadd .i64 (k:Int) 8=((k+8:Nat):Int):=by grind [zj]
  rw[if_pos (by grind),e,e2,qsu (by omega) (by omega) (by omega),← qjV (x:=x) (k:=8) (by omega)]
  grind
 grind [qsu]
theorem qss (hx:x<4294967296)(hk:k≤32)(h8:k%8=0):y8 F (x:Int) (k:Int)=some ((len x+k:Nat):Int):=by
 unfold y8
 by_cases h:65536≤x
 ·have e:=qn5 (n:=x) (k:=16) (by omega)
  rw[show ((16:Nat):Int)=16 from rfl] at e
  have e2:iadd .i64 (k:Int) 16=((k+16:Nat):Int):=by grind [zj]
  rw[if_pos (by grind),e,e2,qst (by omega) (by omega) (by omega),← qjV (x:=x) (k:=16) (by omega)]
  grind
 grind [qst]
theorem qlo (hx:x<18446744073709551616):vi F (x:Int)=some ((len x:Nat):Int):=by
 unfold vi
 by_cases h:4294967296≤x
 ·have e:=qn5 (n:=x) (k:=32) (by omega)
  rw[show ((32:Nat):Int)=32 from rfl] at e
  have:=qss (F:=F) (x:=x/2^32) (k:=32) (by omega) (by omega) (by omega)
  rw[show ((32:Nat):Int)=32 from rfl] at this
  rw[if_pos (by grind),e,this,qjV (x:=x) (k:=32) (by omega)]
 ·have:=qss (F:=F) (x:=x) (k:=0) (by omega) (by omega) (by omega)
  grind
def lg (n:Nat):Nat:=len (n+1)-1
theorem qy9 {n:Nat}:2^lg n≤n+1:=qq9 (by omega)
theorem qza {n:Nat}:n+1<2^(lg n+1):=by
 grind [lg,qra]
theorem qtL {n:Nat}(h1:2^k≤n+1)(h2:n+1<2^(k+1)):lg n=k:=by
 grind [qlp,lg]
theorem qgx {n:Nat}(h:n≤1099511627776):lg n≤40:=by
 have:len (n+1)≤41:=qgf.2 (by omega)
 unfold lg;omega
theorem qAS {n:Nat}(h:n+1<18446744073709551616):lg n≤63:=by
 have:len (n+1)≤64:=qgf.2 (by omega)
 unfold lg;omega
theorem qyd {n:Nat}(h:n+1<18446744073709551616):qeM F (n:Int)=some ((lg n:Nat):Int):=by
 unfold qeM
 have e:iadd .u64 (n:Int) 1=((n+1:Nat):Int):=by grind [iadd,jC]
 rw[e,qlo (by omega)]
 simp only[qBb]
 have h1:=qn8 (x:=n+1) (by omega)
 have h2:len (n+1)≤64:=qgf.2 (by omega)
 rw[qd5 h1 (by omega)]
 rfl
theorem pow64 (h:k≤63):2^k≤9223372036854775808:=by
 have:=qBP (show 0<2 by decide) h
 omega
theorem qj6 (h:k≤63):ishl .u64 1 (k:Int)=((2^k:Nat):Int):=by
 have:=qq4 (n:=1) (k:=k) (by omega)
 rw[show ((1:Nat):Int)=1 from rfl] at this
 have hp:=pow64 h
 omega
theorem ql0 {b:Nat}(h:b≤a)(h2:a<18446744073709551616):isub .u64 (a:Int) (b:Int)=((a-b:Nat):Int):=by
 grind [isub,jC]
theorem qkK (h:1≤a)(h2:a<18446744073709551616):isub .u64 (a:Int) 1=((a-1:Nat):Int):=by
 grind [isub,jC]
theorem qrL {b:Nat}(h2:a+b<18446744073709551616):iadd .u64 (a:Int) (b:Int)=((a+b:Nat):Int):=by
 grind [iadd,jC]
theorem qoH (h2:a+1<18446744073709551616):iadd .u64 (a:Int) 1=((a+1:Nat):Int):=by
 grind [iadd,jC]
theorem qzV {n:Nat}(hn:n<18446744073709551616)(hk:k≤63):qfI F (n:Int) (k:Int)=some ((n%2^k:Nat):Int):=by
 unfold qfI
 have hp:=pow64 hk
 have hp0:0<2^k:=qCH (by decide)
 have hc:decide ((0:Int)≤(k:Int))=true:=decide_eq_true (by omega)
 rw[hc]
 simp only[chk,if_true,lett]
 rw[qj6 hk,qkK (by omega) (by omega)]
 have e:=qhM (k:=.u64) (a:=(n:Int)) (m:=k) (by omega) (by grind [IntKind.bits]) (by grind [IntKind.bits]) rfl
 simp_all
theorem qvG {n:Nat}(h:w≤k):nb (n%2^k) w=nb n w:=by
 induction w with
 | zero=>rfl
 | succ w ih =>
  rw[nb,nb,ih (by omega)]
  congr 2
  have hp:2^k=2^w*2^(k-w):=by rw[← qDQ];grind
  rw[hp,Nat.mod_mul_right_div_self]
  have hp2:2^(k-w)=2*2^(k-w-1):=by rw[← qDa];grind
  simp_all
def ga (n:Nat):qDU:=un (lg n)++nb (n+1) (lg n)
theorem qiB (n:Nat):Bit (ga n):=vl (qoI _) (qlr _ _)
theorem qnX (n:Nat):(ga n).length=2*lg n+1:=by grind [ga,qiK,qdl]
theorem qkk {n:Nat}(hF:20000≤F)(hn:n+1<18446744073709551616):j2 F (n:Int)=some (((ga n).length:Int),pk (ga n)):=by
 unfold j2
 have h63:=qAS hn
 rw[qyd hn]
 simp only[qBb]
 rw[vz (by omega),qwa hF (by omega)]
 simp only[qBb]
 rw[qoH hn,qzV hn h63]
 simp only[qBb]
 have hlt:(n+1)%2^lg n<18446744073709551616:=by have:=Nat.mod_le (n+1) (2^lg n);omega
 rw[qix hlt (by omega) (qoI _) (by rw[qiK];omega) (by omega),qvG (qBo _)]
 rfl
def numOf (l:qDU)(k a:Nat):Int×Int×Int :=
 if 64≤k then (0,0,3) else if l.length<a+k then (0,0,7) else if 1099511627776<bv ((l.drop a).take k)+2^k-1 then (0,0,3) else (((bv ((l.drop a).take k)+2^k-1:Nat):Int),((a+k:Nat):Int),0)
def fg (l:qDU)(a:Nat):Int×Int×Int:=match fz (l.drop a) with | none=>(0,0,7) | some k=>numOf l k (a+k+1)
theorem qg0 {l:qDU}(hF:100≤F)(hl:Bit l)(hm:l.length≤8192)(ha:a≤l.length)(hw:w≤64) :
  je F (l.length:Int) (pk l) (a:Int) (w:Int)=some (if a+w≤l.length then (((bv ((l.drop a).take w):Nat):Int),true) else (0,false)):=by
 grind [qyb,qic,qlt,qhb]
theorem qu8 {l:qDU}:(fg l a).2.2≠0∨∃ n q:Nat,fg l a=((n:Int),(q:Int),0)∧n≤1099511627776∧q≤l.length:=by
 unfold fg
 cases hf:fz (l.drop a) with
 | none=>simp
 | some k =>
  simp only
  unfold numOf
  by_cases h1:64≤k
  ·simp_all
  ·rw[if_neg h1]
   by_cases h2:l.length<a+k+1+k
   ·simp_all
   ·rw[if_neg h2]
    by_cases h3:1099511627776<bv ((l.drop (a+k+1)).take k)+2^k-1
    ·simp_all
    ·right;rw[if_neg h3];exact ⟨_,_,rfl,by omega,by omega⟩
theorem qrh {l:qDU}(hF:20000≤F)(hl:Bit l)(hm:l.length≤8192)(ha:a≤l.length) :
  (if decide ((64:Int)≤(k:Int)) then some ((0:Int),(0:Int),(3:Int)) else ((je F (l.length:Int) (pk l) (a:Int) (iconv .i64 (k:Int))).bind fun x10=>(if (!x10.2) then some (0,0,7) else (chk (decide ((0:Int)≤(k:Int))) ((lett (iadd .u64 x10.1 (isub .u64 (ishl .u64 1 (k:Int)) 1)) fun x16=>(if (decide (1099511627776<x16)) then some (0,0,3) else some (x16,iadd .i64 (a:Int) (iconv .i64 (k:Int)),0))))))))=some (numOf l k a):=by
 unfold numOf
 by_cases h1:64≤k
 ·grind
 ·rw[if_neg (by grind),if_neg h1,qej (by omega),qg0 (by omega) hl hm ha (by omega)]
  simp only[qBb]
  by_cases h2:a+k≤l.length
  ·rw[if_pos h2,if_neg (show ¬ l.length<a+k by omega)]
   have hc:decide ((0:Int)≤(k:Int))=true:=decide_eq_true (by omega)
   simp only[qB5,qBq,if_false,hc,chk,if_true,lett]
   have hb:=qr3 (qi6 (qhu hl a) k)
   rw[qBW,qB3,qC0 (by omega)] at hb
   have hp:=pow64 (k:=k) (by omega)
   have hp0:0<2^k:=qCH (by decide)
   rw[qj6 (by omega),qkK (by omega) (by omega),qrL (by omega),qb3 (by omega),show bv ((l.drop a).take k)+(2^k-1)=bv ((l.drop a).take k)+2^k-1 from by omega]
   grind
  grind
theorem qje {l:qDU}(hF:20000≤F)(hl:Bit l)(hm:l.length≤8192)(ha:a≤l.length):jq F (l.length:Int) (pk l) (a:Int)=some (fg l a):=by
 unfold jq kD qb2
 rw[qsk hF hl hm ha]
 unfold fg
 cases hf:fz (l.drop a) with
 | none=>rfl
 | some k =>
  have hk:=qy4 hf
  rw[qB3] at hk
  simp only[qBb,qB5,qBq,if_false,bne_self_eq_false]
  rw[qrh hF hl hm (by omega)]
  rfl
def rd (f:qDU→Nat→Int×Int×Int)(m:Int)(b:qDU)(a:Int):Int×Int×Int:=if raOf m b a≠0 then (0,0,raOf m b a) else f (bl b m.toNat) a.toNat
theorem qvJ {n:Nat}(hn:n≤1099511627776)(p r:qDU):numOf (p++nb (n+1) (lg n)++r) (lg n) p.length=((n:Int),((p.length+lg n:Nat):Int),0):=by
 have h40:=qgx hn
 have h1:=qy9 (n:=n)
 have h2:=qza (n:=n)
 have hp0:0<2^lg n:=qCH (by decide)
 have hbv:bv (((p++nb (n+1) (lg n)++r).drop p.length).take (lg n))=n+1-2^lg n:=by
  rw[qBn,List.drop_left,qCC (qdl _ _),qk2]
  rw[qDF] at h2
  rw[Nat.mod_eq_sub_mod h1,qBZ (by omega)]
 grind [numOf,qdl]
theorem qAM {n:Nat}(hn:n≤1099511627776)(p r:qDU):fg (p++ga n++r) p.length=((n:Int),((p.length+(ga n).length:Nat):Int),0):=by
 unfold fg
 have h0:(p++ga n++r).drop p.length=un (lg n)++(nb (n+1) (lg n)++r):=by
  grind [ga]
 grind [qy5,qvJ,qiK,qnX]
def sh (m:Nat):Nat:=len (m-1)
def dd (m:Nat):Nat:=2^sh m-m
theorem qzg {m:Nat}(h:1≤m):m≤2^sh m:=by grind [qra,sh]
theorem qs1 {m:Nat}(h:m≤9223372036854775808):sh m≤63:=qgf.2 (by omega)
theorem qAZ {m:Nat}(h:2≤m):1≤sh m∧2^(sh m-1)<m:=by
 grind [qn8,qq9,sh]
theorem qA8:sh 1=0:=rfl
theorem qjM {m:Nat}(h:1≤m):m+dd m=2^sh m:=by grind [qzg,dd]
theorem qpn {m:Nat}(h:1≤m)(hd:0<dd m):1≤sh m∧dd m<2^(sh m-1):=by
 by_cases h2:2≤m
 ·obtain ⟨h3,h4⟩:=qAZ h2
  have h5:=qjM h
  have h6:2^sh m=2*2^(sh m-1):=by rw[← qDa];simp_all
  omega
 ·obtain rfl:m=1:=by omega
  simp[dd,qA8] at hd
theorem qhJ {m:Nat}(h:1≤m)(h2:m≤9223372036854775808):qbD F (m:Int)=some ((sh m:Int),(dd m:Int)):=by
 unfold qbD
 have h63:=qs1 h2
 have hl:=qzg h
 rw[qkK h (by omega),qlo (by omega)]
 simp only[qBb]
 have hc:decide ((0:Int)≤((len (m-1):Nat):Int))=true:=decide_eq_true (by omega)
 rw[hc]
 simp only[chk,if_true]
 have hp:=pow64 h63
 have e:=qj6 h63
 unfold sh at e hl hp
 rw[e,ql0 hl (by omega)]
 rfl
def le (n m:Nat):qDU:=if n<dd m then nb n (sh m-1) else nb (n+dd m) (sh m)
theorem qzU (n m:Nat):Bit (le n m):=by grind [le,qlr]
theorem qvw (n m:Nat):(le n m).length=if n<dd m then sh m-1 else sh m:=by grind [le,qdl]
theorem qpb {n m:Nat}{l:qDU}(hF:20000≤F)(hl:Bit l)(hlm:l.length≤8192)(hm:m≤9223372036854775808)(hn:n<m) :
  qbe F (l.length:Int) (pk l) (n:Int) (m:Int)=some (((l++le n m).length:Int),pk (l++le n m)):=by
 unfold qbe le
 have h63:=qs1 hm
 have ha:=qjM (m:=m) (by omega)
 have hp:=pow64 h63
 rw[qhJ (by omega) hm]
 simp only[qBb]
 by_cases h:n<dd m
 ·obtain ⟨h1,h2⟩:=qpn (m:=m) (by omega) (by omega)
  grind [qd5,qix]
 ·rw[if_neg (by simp_all),if_neg h,qrL (by omega),qix (by omega) (by omega) hl hlm (by omega)]
  rfl
def flR (l:qDU)(a m:Nat):Option (Nat×Nat):=if a+sh m≤l.length then some (bv ((l.drop a).take (sh m))-dd m,a+sh m) else none
def flOf (l:qDU)(a m:Nat):Option (Nat×Nat) :=
 if 0<dd m then (if a+(sh m-1)≤l.length then (if bv ((l.drop a).take (sh m-1))<dd m then some (bv ((l.drop a).take (sh m-1)),a+(sh m-1)) else flR l a m) else none) else flR l a m
theorem qoD {l:qDU}(hl:Bit l)(hs:1≤s)(h:a+s≤l.length):∃ x,x<2∧bv ((l.drop a).take s)=2*bv ((l.drop a).take (s-1))+x:=by
 obtain ⟨x,hx,hx2⟩:=qAH (qhu hl a) (i:=s-1) (by grind)
 refine ⟨x,hx2,?_⟩
 have:(l.drop a).take s=(l.drop a).take (s-1)++[(x:Int)]:=by
  have h1:s=(s-1)+1:=by omega
  grind [List.take_add_one]
 grind [bv]
theorem qy3 {l:qDU}(hl:Bit l){m n q:Nat}(hm:1≤m)(h:flOf l a m=some (n,q)):n<m∧q≤l.length:=by
 have hR:flR l a m=some (n,q)→n<m∧q≤l.length:=by
  intro h
  unfold flR at h
  grind [qr3,qi6,qhu,qBW,qjM]
 unfold flOf at h
 split at h
 ·rename_i h0
  split at h
  ·split at h
   ·simp only[qBl,Prod.mk.injEq] at h
    have h1:=qpn hm h0
    have h2:=qjM hm
    have h6:2^sh m=2*2^(sh m-1):=by rw[← qDa];simp_all
    omega
   simp_all
  simp_all
 simp_all
theorem qnU {m:Nat}{l:qDU}(hF:20000≤F)(hl:Bit l)(hlm:l.length≤8192)(ha:a≤l.length)(hm1:1≤m)(hm:m≤9223372036854775808) :
  match flOf l a m with
  | none=>∃ x y,zZ F (l.length:Int) (pk l) (a:Int) (m:Int)=some (x,y,false)
  | some p=>zZ F (l.length:Int) (pk l) (a:Int) (m:Int)=some ((p.1:Int),(p.2:Int),true):=by
 have h63:=qs1 hm
 have hadd:=qjM hm1
 have hp:=pow64 h63
 have hj1:(0<dd m→¬ bv ((l.drop a).take (sh m-1))<dd m)→match flR l a m with
   | none=>∃ x y,kq F (l.length:Int) (pk l) (a:Int) ((sh m:Int),(dd m:Int))=some (x,y,false)
   | some p=>kq F (l.length:Int) (pk l) (a:Int) ((sh m:Int),(dd m:Int))=some ((p.1:Int),(p.2:Int),true):=by
  intro hge
  unfold flR kq
  simp only
  rw[qg0 (by omega) hl hlm ha (by omega)]
  simp only[qBb]
  by_cases h:a+sh m≤l.length
  ·rw[if_pos h,if_pos h]
   simp only
   have hb:=qr3 (qi6 (qhu hl a) (sh m))
   rw[qBW,qB3,qC0 (by omega)] at hb
   grind [qoD,ql0,qb3]
  ·rw[if_neg h,if_neg h]
   simp
 by_cases h0:0<dd m
 ·obtain ⟨h1,h2⟩:=qpn hm1 h0
  by_cases h3:a+(sh m-1)≤l.length
  ·by_cases h4:bv ((l.drop a).take (sh m-1))<dd m
   ·have e:flOf l a m=some (bv ((l.drop a).take (sh m-1)),a+(sh m-1)):=by grind [flOf]
    rw[e]
    unfold zZ
    rw[qhJ hm1 hm]
    simp only[qBb]
    rw[if_pos (by simp_all),qd5 h1 (by omega),qg0 (by omega) hl hlm ha (by omega),if_pos h3]
    simp only[qBb,qB5,qBq,if_false]
    rw[if_pos (by simp_all),qb3 (by omega),qd5 (by omega) (by omega),show a+sh m-1=a+(sh m-1) from by omega]
   ·have e:flOf l a m=flR l a m:=by grind [flOf]
    have e2:zZ F (l.length:Int) (pk l) (a:Int) (m:Int)=kq F (l.length:Int) (pk l) (a:Int) ((sh m:Int),(dd m:Int)):=by
     unfold zZ
     rw[qhJ hm1 hm]
     simp only[qBb]
     rw[if_pos (by simp_all),qd5 h1 (by omega),qg0 (by omega) hl hlm ha (by omega),if_pos h3]
     grind
    simp_all
  ·have e:flOf l a m=none:=by grind [flOf]
   rw[e]
   unfold zZ
   rw[qhJ hm1 hm]
   simp only[qBb]
   rw[if_pos (by simp_all),qd5 h1 (by omega),qg0 (by omega) hl hlm ha (by omega),if_neg h3]
   simp
 grind [flOf,zZ,qhJ]
theorem qAN {n m:Nat}(hn:n<m)(p r:qDU):flOf (p++le n m++r) p.length m=some (n,p.length+(le n m).length):=by
 have hd:(p++le n m++r).drop p.length=le n m++r:=by simp
 have hll:=qvw n m
 have hadd:=qjM (m:=m) (by omega)
 have hL:(p++le n m++r).length=p.length+(le n m).length+r.length:=by grind
 unfold flOf flR
 rw[hd,hL,hll]
 by_cases h:n<dd m
 ·obtain ⟨h1,h2⟩:=qpn (m:=m) (by omega) (by omega)
  have e:bv ((le n m++r).take (sh m-1))=n:=by
   unfold le
   rw[if_pos h,qCC (qdl _ _),qk2,qBZ (by omega)]
  grind
 ·have e:bv ((le n m++r).take (sh m))=n+dd m:=by
   unfold le
   rw[if_neg h,qCC (qdl _ _),qk2,qBZ (by omega)]
  rw[if_neg h]
  by_cases h0:0<dd m
  ·obtain ⟨h1,h2⟩:=qpn (m:=m) (by omega) h0
   have e2:bv ((le n m++r).take (sh m-1))=(n+dd m)/2:=by
    unfold le
    rw[if_neg h]
    have hs:nb (n+dd m) (sh m)=nb ((n+dd m)/2) (sh m-1)++[((((n+dd m)%2:Nat)):Int)]:=by
     have:=qx0 (n+dd m) (sh m-1)
     simp_all
    have h6:2^sh m=2*2^(sh m-1):=by rw[← qDa];simp_all
    rw[hs,qBn,qCC (qdl _ _),qk2,qBZ (by omega)]
   grind
  simp_all
def ok3 (l:qDU):Int×qDU×Int:=((l.length:Int),pk l,0)
theorem qAr {b:Nat}(h:a*b<18446744073709551616):imul .u64 (a:Int) (b:Int)=((a*b:Nat):Int):=by
 grind [imul,jC]
def en (p:Option (Nat×Nat)):Int×Int×Int:=match p with
 | none=>(0,0,7)
 | some p=>if 1099511627776<p.1 then (0,0,3) else ((p.1:Int),(p.2:Int),0)
theorem qtC {n q:Nat}:qcV F (n:Int) (q:Int) true=some (en (some (n,q))):=by
 grind [qcV,en]
def zh (n k:Nat):Nat:=lg n/k
def zf (n k:Nat):Nat:=2^(zh n k*k)
def zt (n k:Nat):Nat:=2^(zh n k*k+k)
def ze (n k:Nat):qDU:=un (zh n k)++le (n+1-zf n k) (zt n k-zf n k)
theorem qrU (n k:Nat):Bit (ze n k):=vl (qoI _) (qzU _ _)
theorem qzo (n k:Nat):zf n k≤n+1:=by
 have h:zh n k*k≤lg n:=qDm _ _
 exact Nat.le_trans (qBP (by decide) h) qy9
theorem qzq {n:Nat}(hk:1≤k):n+1<zt n k:=by
 have h:lg n+1≤zh n k*k+k:=by
  have:=Nat.lt_mul_div_succ (lg n) hk
  unfold zh
  grind
 exact qC4 qza (qBP (by decide) h)
theorem qtm {n:Nat}(hn:n≤1099511627776)(hk2:k≤16):zh n k*k≤40∧zt n k≤72057594037927936:=by
 have h:zh n k*k≤lg n:=qDm _ _
 have h40:=qgx hn
 refine ⟨by omega,?_⟩
 have:zt n k≤2^56:=qBP (by decide) (by omega)
 omega
def Zk (k:Int):Prop:=1≤k∧k≤16
instance zkDec (k:Int):Decidable (Zk k):=inferInstanceAs (Decidable (_∧_))
theorem qAD {k:Int}(h:Zk k):∃ j:Nat,k=j∧1≤j∧j≤16:=by
 obtain ⟨j,rfl⟩:=qBf (show 0≤k by have:=h.1;omega)
 exact ⟨j,rfl,by have:=h.1;omega,by have:=h.2;omega⟩
theorem qyk {n:Nat}(hn:n≤1099511627776)(hk:1≤k)(hk2:k≤16):qdV F (n:Int) (k:Int)=some ((zh n k:Int),(zf n k:Int),(zt n k:Int)):=by
 unfold qdV
 obtain ⟨h40,h56⟩:=qtm hn hk2
 have hlen:len (n+1)=lg n+1:=by rfl
 have hl40:=qgx hn
 have hzl:zh n k≤lg n:=qCF _ _
 have hc0:((k:Int) != 0)=true:=by grind
 rw[qoH (by omega),qlo (by omega),hlen]
 simp only[qBb]
 rw[qd5 (by omega) (by omega),Nat.add_sub_cancel]
 have e1:iquo .i64 (lg n:Int) (k:Int)=((zh n k:Nat):Int):=by
  grind [iquo,zh,yk]
 have e2:imul .i64 ((zh n k:Nat):Int) (k:Int)=((zh n k*k:Nat):Int):=by
  grind [imul,yk]
 rw[e1,e2,qb3 (by omega),hc0]
 have c1:decide ((0:Int)≤((zh n k*k:Nat):Int))=true:=decide_eq_true (qDt _)
 have c2:decide ((0:Int)≤((zh n k*k+k:Nat):Int))=true:=decide_eq_true (qDt _)
 rw[c1,c2]
 simp only[chk,if_true]
 rw[qj6 (by omega),qj6 (by omega)]
 rfl
def gz (n k:Int):Int×qDU×Int:=if Zk k∧n≤1099511627776 then ok3 (ze n.toNat k.toNat) else (0,[],3)
theorem qzQ {n k:Int}(h:¬ (Zk k∧n≤1099511627776)):gz n k=(0,[],3):=by grind [gz]
theorem qsp {n:Nat}(h:Zk k)(h2:n≤1099511627776):gz n k=ok3 (ze n k):=by grind [gz]
theorem qyY (hF:20000≤F){n k:Int}(hn:U64 n):qdU F n k=some (gz n k):=by
 unfold qdU
 by_cases h:Zk k∧n≤1099511627776
 ·obtain ⟨n,rfl⟩:=qBf hn.1
  obtain ⟨k,rfl,h1,h2⟩:=qAD h.1
  have hn2:n≤1099511627776:=by omega
  have hl40:=qgx hn2
  have hzl:zh n k≤lg n:=qCF _ _
  have a1:=qzo n k
  have a2:=qzq (n:=n) h1
  have a3:=(qtm hn2 h2).2
  rw[if_neg (by grind),qyk hn2 h1 h2,qsp h.1 hn2]
  simp only[qBb]
  rw[vz (by omega),qwa hF (by omega),qoH (by omega),ql0 a1 (by omega),ql0 (by omega) (by omega)]
  simp only[qBb]
  rw[qpb hF (qoI _) (by rw[qiK];omega) (by omega) (by omega)]
  rfl
 grind [Zk,qzQ]
def zq (k:Nat)(l:qDU)(i:Nat):Int×Int×Int:=match fz (l.drop i) with
 | none=>(0,0,7)
 | some h=>if 41≤h*k then (0,0,3) else en ((flOf l (i+h+1) (2^(h*k+k)-2^(h*k))).map fun p=>(2^(h*k)+p.1-1,p.2))
theorem qsG (hk:1≤k):2*2^a≤2^(a+k):=by
 rw[← qDa];exact qBP (by decide) (by omega)
theorem qv2 (h:a≤56):2^a≤72057594037927936:=by
 have:2^a≤2^56:=qBP (by decide) h
 omega
theorem qpv {i:Nat}{l:qDU}(hF:20000≤F)(hl:Bit l)(hlm:l.length≤8192)(hi:i≤l.length)(h1:1≤k)(h2:k≤16):qbd F (l.length:Int) (pk l) (i:Int) (k:Int)=some (zq k l i):=by
 unfold qbd
 rw[qsk hF hl hlm hi]
 unfold zq
 cases hz:fz (l.drop i) with
 | none=>rfl
 | some h =>
  have hq:=qy4 hz
  rw[qB3] at hq
  have hmul:h*k≤8192*16:=Nat.mul_le_mul (by omega) h2
  simp only[qBb,qB5,qBq,if_false]
  rw[vz (by omega),qAr (by omega),qej (by omega)]
  by_cases h3:41≤h*k
  ·grind
  ·rw[if_neg (by grind),if_neg h3]
   have e2:imul .i64 (h:Int) (k:Int)=((h*k:Nat):Int):=by
    grind [imul,yk]
   have c1:decide ((0:Int)≤((h*k:Nat):Int))=true:=decide_eq_true (qDt _)
   have c2:decide ((0:Int)≤(k:Int))=true:=decide_eq_true (by omega)
   rw[e2,c1,c2]
   simp only[chk,if_true,lett]
   have p1:=qv2 (a:=h*k) (by omega)
   have p2:=qv2 (a:=h*k+k) (by omega)
   have p3:=qsG (a:=h*k) h1
   have p0:0<2^(h*k):=qCH (by decide)
   rw[qj6 (by omega),qq4 (by omega),← qDQ,qBZ (by omega),ql0 (by omega) (by omega)]
   have:=qnU (a:=i+h+1) (m:=2^(h*k+k)-2^(h*k)) hF hl hlm (by omega) (by omega) (by omega)
   cases hf:flOf l (i+h+1) (2^(h*k+k)-2^(h*k)) with
   | none =>
    rw[hf] at this
    obtain ⟨x,y,e⟩:=this
    rw[e];rfl
   | some p =>
    rw[hf] at this
    simp only at this
    have hp:=qy3 hl (n:=p.1) (q:=p.2) (by omega) hf
    rw[this]
    simp only[qBb]
    rw[qrL (by omega),qkK (by omega) (by omega),qtC]
    rfl
theorem qy6 {n:Nat}(hn:n≤1099511627776):(ga n).length≤81:=by grind [qnX,qgx]
theorem qvx {n m:Nat}(hm:m≤9223372036854775808):(le n m).length≤63:=by
 grind [qvw,qs1]
theorem qAC {n:Nat}(hn:n≤1099511627776)(hk2:k≤16):(ze n k).length≤200:=by
 have hzl:zh n k≤lg n:=qCF _ _
 have hl40:=qgx (n:=n) (by omega)
 have a3:=(qtm (n:=n) (by omega) hk2).2
 grind [qvx,ze,qiK]
def foldOf (x:Int):Int:=if x<0 then 2*(-(x+1))+1 else 2*x
theorem qoP {x:Int}(h1:-9223372036854775808≤x)(h2:x<0):IntKind.wrap .u64 x=x+18446744073709551616:=by
 rw[qjD];omega
theorem qxk (n:Nat)(h:n<18446744073709551616):ixor .u64 (n:Int) 18446744073709551615=18446744073709551615-(n:Int):=by
 unfold ixor
 have h1:(qBM (IntKind.bits .u64) (n:Int))=qBB 64 n:=by rfl
 have h2:(qBM (IntKind.bits .u64) (18446744073709551615:Int))=qCw 64:=by rfl
 rw[h1,h2]
 have h3:(qBB 64 n ^^^ qCw 64) = ~~~ (qBB 64 n):=BitVec.xor_allOnes
 have h4:(qBB 64 n ^^^ qCw 64).toNat=18446744073709551615-n:=by
  rw[h3,BitVec.toNat_not,qCB]
  omega
 show IntKind.wrap .u64 ((qBB 64 n ^^^ qCw 64).toNat:Int)=_
 rw[h4,jC (by omega) (by omega)]
 omega
theorem qrS (n:Nat)(h:n<18446744073709551616):ixor .u64 (n:Int) 0=(n:Int):=by
 grind [ixor,qBM,IntKind.bits,qBB,jC]
theorem qrQ (n:Nat)(h:n<9223372036854775808):ixor .i64 (n:Int) (-1)=-(n:Int)-1:=by
 unfold ixor
 have h1:(qBM (IntKind.bits .i64) (n:Int))=qBB 64 n:=by rfl
 have h2:(qBM (IntKind.bits .i64) (-1:Int))=qCw 64:=by rfl
 rw[h1,h2]
 have h3:(qBB 64 n ^^^ qCw 64) = ~~~ (qBB 64 n):=BitVec.xor_allOnes
 have h4:(qBB 64 n ^^^ qCw 64).toNat=18446744073709551615-n:=by
  grind
 show IntKind.wrap .i64 ((qBB 64 n ^^^ qCw 64).toNat:Int)=_
 grind [IntKind.wrap,IntKind.bits,IntKind.signed]
theorem qrR (n:Nat)(h:n<9223372036854775808):ixor .i64 (n:Int) 0=(n:Int):=by
 unfold ixor
 have h1:(qBM (IntKind.bits .i64) (n:Int))=qBB 64 n:=by rfl
 have h2:(qBM (IntKind.bits .i64) (0:Int))=0#64:=by rfl
 rw[h1,h2]
 show IntKind.wrap .i64 ((qBB 64 n ^^^ 0#64).toNat:Int)=_
 rw[BitVec.xor_zero,qCB,qBZ (by omega),yk (by omega) (by omega)]
theorem qsi (F:Nat){x:Int}(h1:-9223372036854775808≤x)(h2:x<9223372036854775808):qca F x=some (foldOf x):=by
 unfold qca lett foldOf
 have hs:ishr .i64 x 63=x/9223372036854775808:=by
  have:=qhN (k:=.i64) (a:=x) (m:=63) (by decide)
  simp_all
 have hl:∀ y:Int,ishl .u64 y 1=(y*2)%18446744073709551616:=fun y=>qlk (a:=y) (m:=1) (by decide)
 rw[hs,hl]
 by_cases hx:x<0
 ·rw[if_pos hx,show x/9223372036854775808=-1 from by omega]
  have e1:iconv .u64 x=x+18446744073709551616:=qoP h1 hx
  have e2:iconv .u64 (-1)=18446744073709551615:=by decide
  rw[e1,e2,show (x+18446744073709551616)*2%18446744073709551616=(((2*x+18446744073709551616).toNat:Nat):Int) from by omega,qxk _ (by omega)]
  grind
 ·rw[if_neg hx,show x/9223372036854775808=0 from by omega]
  have e1:iconv .u64 x=x:=jC (by omega) (by omega)
  have e2:iconv .u64 0=0:=by decide
  rw[e1,e2,show x*2%18446744073709551616=((2*x).toNat:Int) from by omega,qrS _ (by omega)]
  grind
def k6 (n:Int):Int:=if n%2=0 then n/2 else -(n/2)-1
theorem qnd (F:Nat){n:Int}(h1:0≤n)(h2:n<18446744073709551616):qaZ F n=some (k6 n):=by
 unfold qaZ lett k6
 have hs:ishr .u64 n 1=n/2:=by
  have:=qhN (k:=.u64) (a:=n) (m:=1) (by decide)
  simp_all
 have ha:iand .u64 n 1=n%2:=by
  have:=qhM (k:=.u64) (a:=n) (m:=1) h1 (by grind [IntKind.bits]) (by decide) rfl
  simp_all
 have e1:iconv .i64 (n/2)=n/2:=yk (by omega) (by omega)
 have e2:iconv .i64 (n%2)=n%2:=yk (by omega) (by omega)
 rw[hs,ha,e1,e2]
 by_cases h:n%2=0
 ·rw[if_pos h,h,show isub .i64 0 0=0 from by decide,show n/2=((n/2).toNat:Int) from by omega,qrR _ (by omega)]
 ·rw[if_neg h,show n%2=1 from by omega,show isub .i64 0 1=-1 from by decide,show n/2=((n/2).toNat:Int) from by omega,qrQ _ (by omega)]
theorem qkq (x:Int):k6 (foldOf x)=x:=by
 grind [k6,foldOf]
theorem qob {x:Int}:qef F x=some (decide (0≤x∧x≤1048576)):=by
 unfold qef
 simp
def gk:Int→qDU→Int
 | _,[]=>0
 | last,n::l=>if 0≤n∧n≤1048576 then (if n≤last then 4 else gk n l) else 3
def gkc (l:qDU):Int:=if 300<l.length then 2 else gk (-1) l
theorem qpy {F:Nat}{l:qDU}(hm:l.length≤300):∀ (k i:Nat) (last:Int),l.length<k+i→i≤l.length →
  qeA F l k (last,(i:Int))=some (gk last (l.drop i))
 | 0,_,_,_,_=>by omega
 | k+1,i,last,h,hi=>by
  show qez F l (qeA F l k) last (i:Int)=_
  unfold qez
  by_cases hlt:i<l.length
  ·rw[if_pos (by simp_all),qo,qBc hlt,qBj hlt,gk]
   simp only[qBb]
   rw[qob]
   simp only[qBb]
   by_cases h1:0≤l[i]∧l[i]≤1048576
   ·rw[decide_eq_true h1,if_pos h1,if_neg (by simp)]
    by_cases h2:l[i]≤last
    ·simp_all
    ·rw[if_neg h2,if_neg (by grind),qs (by omega)]
     exact qpy hm k (i+1) _ (by omega) (by omega)
   grind
  ·rw[if_neg (by simp_all),qBm (by omega)]
   rfl
theorem qgu (hF:20000≤F){l:qDU}:jr F l=some (gkc l):=by
 unfold jr gkc
 by_cases h:300<l.length
 ·grind
 ·rw[if_neg (by grind),if_neg h]
  exact qpy (by omega) F 0 (-1) (by omega) (by omega)
def Ris:Int→qDU→Prop
 | _,[]=>True
 | last,n::l=>(0≤n∧n≤1048576)∧last<n∧Ris n l
theorem qvj:∀ {last:Int} {l:qDU},gk last l=0↔Ris last l
 | _,[]=>by simp[gk,Ris]
 | last,n::l=>by
  unfold gk Ris
  by_cases h1:0≤n∧n≤1048576
  ·rw[if_pos h1]
   by_cases h2:n≤last
   ·omega
   ·rw[if_neg h2,qvj];simp_all
  omega
theorem vw {l:qDU}:gkc l=0↔(l.length≤300∧Ris (-1) l):=by
 grind [gkc,qvj]
def Nd (x:Int):Prop:=0≤x∧x≤1048576
instance ndDec (x:Int):Decidable (Nd x):=inferInstanceAs (Decidable (_∧_))
def gp:Bool→Int→qDU→qDU
 | _,_,[]=>[]
 | b,a,n::l=>(if b then n-a-1 else foldOf (n-a))::gp true n l
theorem qqZ:∀ (b:Bool) (a:Int) (l:qDU),(gp b a l).length=l.length
 | _,_,[]=>rfl
 | b,a,n::l=>by rw[gp,qBA,qBA,qqZ]
theorem qzO {a n:Int}{b:Bool}(ha:Nd a)(hn:Nd n)(hb:b=true→a<n):qbc F a b n=some (if b then n-a-1 else foldOf (n-a),n,true):=by
 unfold qbc
 have h1:=ha.1;have h2:=ha.2;have h3:=hn.1;have h4:=hn.2
 cases b with
 | true =>
  have:=hb rfl
  rw[if_pos rfl,if_pos rfl,zV (a:=n) (b:=a) (by omega) (by omega),zV (a:=n-a) (by omega) (by omega)]
  have e:iconv .u64 (n-a-1)=n-a-1:=jC (by omega) (by omega)
  rw[e];rfl
 | false =>
  rw[if_neg (by simp),if_neg (by simp),zV (by omega) (by omega),qsi F (by omega) (by omega)]
  rfl
theorem qvm {F:Nat}{l:qDU}(hm:l.length≤300):∀ (k i:Nat) (a:Int) (b:Bool) (o:qDU),l.length<k+i→i≤l.length→Nd a→(b=true→Ris a (l.drop i))→(b=false→∃ q,Ris q (l.drop i))→o.length+(l.length-i)≤1000 →
  qga F l k (o,(i:Int),a,b)=some (o++gp b a (l.drop i))
 | 0,_,_,_,_,_,_,_,_,_,_=>by omega
 | k+1,i,a,b,o,h,hi,ha,hb,hb2,ho=>by
  show qf8 F l (qga F l k) o (i:Int) a b=_
  unfold qf8
  by_cases hlt:i<l.length
  ·rw[qBj hlt] at hb hb2 ⊢
   have hx:Nd l[i]∧Ris l[i] (l.drop (i+1)):=by
    cases b with
    | true=>have:=hb rfl;exact ⟨this.1,this.2.2⟩
    | false=>obtain ⟨q,hq⟩:=hb2 rfl;exact ⟨hq.1,hq.2.2⟩
   rw[if_pos (by simp_all),qo,qBc hlt]
   simp only[qBb]
   rw[qzO ha hx.1 (fun h=>(hb h).2.1)]
   simp only[qBb]
   rw[zU (by grind),qs (by omega)]
   simp only[qBb]
   rw[qvm hm k (i+1) _ _ _ (by omega) (by omega) hx.1 (fun _=>hx.2) (fun h=>by cases h) (by grind)]
   rw[gp]
   simp
  grind [qf9,gp]
theorem qxQ (hF:20000≤F){l:qDU}{a:Int}(hm:l.length≤300)(ha:Nd a)(hr:Ris q l):qgL F l a=some (gp false a l):=by
 unfold qgL
 have:=qvm (F:=F) hm F 0 a false [] (by omega) (by omega) ha (fun h=>by cases h) (fun _=>⟨q,by simp_all⟩) (by grind)
 simp_all
def st (b:Bool)(a g:Int):Option Int:=if 2097152<g then none else if Nd (if b then a+g+1 else a+k6 g) then some (if b then a+g+1 else a+k6 g) else none
theorem qA0 {b:Bool}{a g n:Int}(h:st b a g=some n):Nd n∧g≤2097152∧n=(if b then a+g+1 else a+k6 g):=by
 grind [st]
theorem qyp {a g:Int}{b:Bool}(ha:Nd a)(hg:U64 g):match st b a g with
  | none=>∃ x y,ya F a b g=some (false,x,y)
  | some n=>ya F a b g=some (true,n,true):=by
 have h1:=ha.1;have h2:=ha.2;have h3:=hg.1;have h4:=hg.2
 by_cases h:2097152<g
 ·have e:st b a g=none:=by grind [st]
  rw[e]
  unfold ya
  simp_all
 ·have hu:-1048577≤k6 g∧k6 g≤1048577:=by grind [k6]
  have hM:ya F a b g=some (decide (Nd (if b then a+g+1 else a+k6 g)),(if b then a+g+1 else a+k6 g),true):=by
   unfold ya
   rw[if_neg (by grind)]
   cases b with
   | true =>
    have e:iconv .i64 g=g:=yk (by omega) (by omega)
    rw[if_pos rfl,e,zj (a:=g) (by omega) (by omega),zj (by omega) (by omega)]
    unfold yK
    rw[qob,show a+(g+1)=a+g+1 from by omega]
    rfl
   | false =>
    rw[if_neg (by simp),qnd F h3 h4]
    simp only[qBb]
    rw[zj (by omega) (by omega)]
    unfold yK
    rw[qob]
    rfl
  rw[hM]
  unfold st
  grind
def bk:Bool→Int→qDU→Option (qDU)
 | _,_,[]=>some []
 | b,a,g::l=>(st b a g).bind fun n=>(bk true n l).map (n::·)
def zes (k:Nat)(g:qDU):qDU:=g.flatMap fun x=>ze x.toNat k
theorem qjE (k:Nat)(x:Int)(g:qDU):zes k (x::g)=ze x.toNat k++zes k g:=rfl
theorem qtk (k:Nat)(g:qDU):Bit (zes k g):=by
 induction g with
 | nil=>intro x hx;simp[zes] at hx
 | cons x g ih=>grind [qjE,vl,qrU]
def L40 (g:qDU):Prop:=∀ x∈g,0≤x∧x≤1099511627776
theorem qzd {F k:Nat}(hF:20000≤F)(h1:1≤k)(h2:k≤16){g:qDU}(hg:L40 g)(hgm:g.length≤10000):∀ (j i:Nat) (l:qDU),g.length<j+i→i≤g.length→Bit l→l.length≤8192 →
  qf7 F g (k:Int) j ((i:Int),(l.length:Int),pk l)=some (if (l++zes k (g.drop i)).length≤8192 then (((l++zes k (g.drop i)).length:Int),pk (l++zes k (g.drop i)),true) else (0,[],false))
 | 0,_,_,_,_,_,_=>by omega
 | j+1,i,l,h,hi,hl,hlm=>by
  show qf6 F g (k:Int) (qf7 F g (k:Int) j) (i:Int) (l.length:Int) (pk l)=_
  unfold qf6
  by_cases hlt:i<g.length
  ·have hx:=hg _ (qBu hlt)
   obtain ⟨x,hxe⟩:=qBf hx.1
   rw[if_pos (by simp_all),qo,qBc hlt,qBj hlt,qjE,hxe,qBh]
   simp only[qBb]
   have hk:Zk (k:Int):=⟨by omega,by omega⟩
   rw[qyY hF ⟨by omega,by omega⟩,qsp hk (by omega)]
   simp only[qBb,ok3]
   have hz:=qAC (n:=x) (k:=k) (by omega) h2
   rw[qb3 (by omega)]
   by_cases h3:l.length+(ze x k).length≤8192
   ·rw[if_neg (by grind),qr1 hF hl (qrU _ _) hlm (by omega)]
    simp only[qBb]
    rw[qs (by omega),qzd hF h1 h2 hg hgm j (i+1) (l++ze x k) (by omega) (by omega) (vl hl (qrU _ _)) (by simp_all)]
    simp
   grind
  ·rw[if_neg (by simp_all),qBm (by omega)]
   have:zes k []=[]:=rfl
   rw[this,qBR,if_pos hlm]
   rfl
theorem qxP (hF:20000≤F)(h1:1≤k)(h2:k≤16){g l:qDU}(hg:L40 g)(hgm:g.length≤10000)(hl:Bit l)(hlm:l.length≤8192) :
  qfn F (l.length:Int) (pk l) g (k:Int)=some (if (l++zes k g).length≤8192 then (((l++zes k g).length:Int),pk (l++zes k g),true) else (0,[],false)):=by
 unfold qfn
 have:=qzd hF h1 h2 hg hgm F 0 l (by omega) (by omega) hl hlm
 simp_all
theorem qvl:∀ {b:Bool} {a q:Int} {l:qDU},Nd a→Ris q l→(b=true→Ris a l)→∀ x∈gp b a l,0≤x∧x≤2097153
 | _,_,_,[],_,_,_=>by grind [gp]
 | b,a,q,n::l,ha,hr,hb=>by
  intro x hx
  rw[gp] at hx
  have h1:=ha.1;have h2:=ha.2;have h3:=hr.1.1;have h4:=hr.1.2
  rcases qBi.1 hx with rfl | hx
  ·cases b with
   | true=>have:=(hb rfl).2.1;grind
   | false=>simp only[qBq,if_false];grind [foldOf]
  ·exact qvl hr.1 hr.2.2 (fun _=>hr.2.2) x hx
def gfr (l:qDU)(k:Nat):Nat→Bool→Int→Nat→Int ⊕ (qDU×Nat)
 | 0,_,_,p=>.inr ([],p)
 | m+1,b,a,p=>if (zq k l p).2.2≠0 then .inl (zq k l p).2.2 else match st b a (zq k l p).1 with
  | none=>.inl 3
  | some n=>match gfr l k m true n (zq k l p).2.1.toNat with
   | .inl e=>.inl e
   | .inr r=>.inr (n::r.1,r.2)
def gfI (o:qDU)(r:Int ⊕ (qDU×Nat)):qDU×Int×Int:=match r with | .inl e=>([],0,e) | .inr r=>(o++r.1,(r.2:Int),0)
theorem qzp {l:qDU}(hl:Bit l){p:Nat}(h1:1≤k):(zq k l p).2.2≠0∨∃ g q:Nat,zq k l p=((g:Int),(q:Int),0)∧g≤1099511627776∧q≤l.length:=by
 unfold zq
 cases hz:fz (l.drop p) with
 | none=>simp
 | some h =>
  simp only
  by_cases h3:41≤h*k
  ·simp_all
  ·rw[if_neg h3]
   have p3:=qsG (a:=h*k) h1
   have p0:0<2^(h*k):=qCH (by decide)
   cases hf:flOf l (p+h+1) (2^(h*k+k)-2^(h*k)) with
   | none=>left;simp[en]
   | some r =>
    have:=qy3 hl (n:=r.1) (q:=r.2) (by omega) hf
    simp only[qCh,en]
    grind
theorem qsn {F k many:Nat}{l:qDU}(hF:20000≤F)(hl:Bit l)(hlm:l.length≤8192)(h1:1≤k)(h2:k≤16)(hm:many≤300):∀ (j i p:Nat) (a:Int) (b:Bool) (o:qDU),many<j+i→i≤many→p≤l.length→Nd a→o.length+(many-i)≤1000 →
  qfm F (l.length:Int) (pk l) (k:Int) (many:Int) j ((p:Int),o,(i:Int),a,b)=some (gfI o (gfr l k (many-i) b a p))
 | 0,_,_,_,_,_,_,_,_,_,_=>by omega
 | j+1,i,p,a,b,o,h,hi,hp,ha,ho=>by
  show qfk F (l.length:Int) (pk l) (k:Int) (many:Int) (qfm F (l.length:Int) (pk l) (k:Int) (many:Int) j) (p:Int) o (i:Int) a b=_
  unfold qfk
  by_cases hlt:i<many
  ·rw[if_pos (by simp_all),qpv hF hl hlm hp h1 h2,show many-i=(many-(i+1))+1 from by omega]
   simp only[qBb]
   unfold gfr
   rcases qzp hl (k:=k) (p:=p) h1 with hz | ⟨g,q,hz,hg,hq⟩
   ·rw[if_pos hz,if_pos (by grind)]
    rfl
   ·rw[hz]
    simp only[ne_eq,not_true_eq_false,if_false,bne_self_eq_false,qBq,qBh]
    have hs:=qyp (F:=F) (b:=b) ha (g:=(g:Int)) ⟨by omega,by omega⟩
    cases hst:st b a (g:Int) with
    | none =>
     rw[hst] at hs
     obtain ⟨x,y,e⟩:=hs
     rw[e];rfl
    | some n =>
     rw[hst] at hs
     simp only at hs
     rw[hs]
     simp only[qBb,qB5,qBq,if_false]
     rw[zU (by grind),qs (by omega)]
     simp only[qBb]
     rw[qsn hF hl hlm h1 h2 hm j (i+1) q n true _ (by omega) (by omega) hq (qA0 hst).1 (by grind)]
     grind [gfI]
  ·rw[if_neg (by simp_all),show many-i=0 from by omega]
   simp[qfl,gfr,gfI]
theorem qvi {many p:Nat}{l:qDU}{a:Int}(hF:20000≤F)(hl:Bit l)(hlm:l.length≤8192)(h1:1≤k)(h2:k≤16)(hm:many≤300)(hp:p≤l.length)(ha:Nd a) :
  qfJ F (l.length:Int) (pk l) (p:Int) a (k:Int) (many:Int)=some (gfI [] (gfr l k many false a p)):=by
 unfold qfJ
 exact qsn hF hl hlm h1 h2 hm F 0 p a false [] (by omega) (by omega) hp ha (by grind)
theorem qx1 {a:Int}:((decide (a<0)) || (decide (1048576<a)))=!decide (Nd a):=by
 grind [Nd]
theorem qsl {l:qDU}{k:Nat}:∀ {m:Nat} {b:Bool} {a:Int} {p:Nat} {r:qDU×Nat},gfr l k m b a p=.inr r→r.1.length=m
 | 0,_,_,_,r,h=>by grind [gfr]
 | m+1,b,a,p,r,h=>by
  unfold gfr at h
  split at h
  ·grind
  ·split at h
   ·grind
   ·split at h
    ·grind
    ·rename_i r' hr
     simp only[Sum.inr.injEq] at h
     rw[← h]
     simp[qsl hr]
theorem qAi {b:Bool}{a n:Int}(ha:Nd a)(hn:Nd n)(hb:b=true→a<n):st b a (if b then n-a-1 else foldOf (n-a))=some n:=by
 have h1:=ha.1;have h2:=ha.2;have h3:=hn.1;have h4:=hn.2
 unfold st
 cases b with
 | true =>
  grind
 | false =>
  simp only[qBq,if_false]
  grind [qkq,foldOf]
theorem qyZ:∀ {b:Bool} {a q:Int} {l:qDU},Nd a→Ris q l→(b=true→Ris a l)→bk b a (gp b a l)=some l
 | _,_,_,[],_,_,_=>rfl
 | b,a,q,n::l,ha,hr,hb=>by
  rw[gp,bk,qAi ha hr.1 (fun h=>(hb h).2.1)]
  simp only[qBb]
  rw[qyZ hr.1 hr.2.2 (fun _=>hr.2.2)]
  rfl
theorem qj3:∀ {q:Int} {l:qDU},Ris q l→∀ x∈l,Nd x
 | _,[],_=>by simp
 | _,n::l,h=>by
  intro x hx
  rcases qBi.1 hx with rfl | hx
  ·exact h.1
  ·exact qj3 h.2.2 x hx
theorem qA4 {n:Nat}(hk:1≤k)(hk2:k≤16)(hn:n≤1099511627776)(p r:qDU):zq k (p++ze n k++r) p.length=((n:Int),((p.length+(ze n k).length:Nat):Int),0):=by
 unfold zq
 have a1:=qzo n k
 have a2:=qzq (n:=n) hk
 have h40:=(qtm hn hk2).1
 have hd:(p++ze n k++r).drop p.length=un (zh n k)++(le (n+1-zf n k) (zt n k-zf n k)++r):=by
  grind [ze]
 rw[hd,qy5]
 simp only
 rw[if_neg (by omega)]
 have:=qAN (n:=n+1-zf n k) (m:=zt n k-zf n k) (by omega) (p++un (zh n k)) r
 rw[qBk,qiK] at this
 have e:p++ze n k++r=p++un (zh n k)++le (n+1-zf n k) (zt n k-zf n k)++r:=by simp_all
 have e2:2^(zh n k*k+k)-2^(zh n k*k)=zt n k-zf n k:=rfl
 rw[e,e2,qC9,this]
 have hdm:2^(zh n k*k)+(n+1-zf n k)-1=n:=by
  have:2^(zh n k*k)=zf n k:=rfl
  omega
 grind [en,qBk,qiK]
theorem qsm {k:Nat}(hk:1≤k)(hk2:k≤16):∀ {g rs:qDU} {b:Bool} {a:Int} (p r:qDU),L40 g→bk b a g=some rs→gfr (p++zes k g++r) k g.length b a p.length=.inr (rs,p.length+(zes k g).length)
 | [],rs,b,a,p,r,_,h=>by grind [bk,gfr,zes]
 | x::g,rs,b,a,p,r,hg,h=>by
  have hx:=hg x qBp
  obtain ⟨n,hn⟩:=qBf hx.1
  unfold bk at h
  cases hs:st b a x with
  | none=>simp_all
  | some y =>
   rw[hs] at h
   simp only[qBb] at h
   cases hb:bk true y g with
   | none=>simp_all
   | some rs' =>
    rw[hb] at h
    simp only[qCh,qBl] at h
    have hz:=qA4 hk hk2 (n:=n) (by omega) p (zes k g++r)
    have e:p++zes k (x::g)++r=p++ze n k++(zes k g++r):=by grind [qjE]
    have ih:=qsm hk hk2 (p++ze n k) r (fun y hy=>hg y (qBt _ hy)) hb
    have e2:p++ze n k++zes k g++r=p++ze n k++(zes k g++r):=by simp
    rw[e2,qBk] at ih
    rw[e,qBA,gfr,hz]
    simp only[ne_eq,not_true_eq_false,if_false,qBh]
    rw[← hn,hs]
    simp only
    rw[ih,← h,qjE,hn,qBh,qBk,qC9]
theorem qjq (l:qDU):(srt l).Perm l:=qna l
theorem qop (l:qDU):(srt l).Pairwise (·≤·):=qs5 l
theorem qoo {l m:qDU}(hp:l.Perm m)(hm:m.Pairwise (·≤·)):srt l=m :=
 qCo (le:=fun x y:Int=>x≤y) (fun a b _ _ h1 h2=>by omega) (qop l) hm ((qjq l).trans hp)
theorem qsI {l:qDU}(h:l.Pairwise (·<·)):l.Pairwise (·≤·):=h.imp (fun h=>by omega)
theorem qpS {l:qDU}(h:l.Pairwise (·<·)):l.Nodup:=h.imp (fun h=>by omega)
theorem qpT {l:qDU}(h:l.Pairwise (·≤·))(hn:l.Nodup):l.Pairwise (·<·):=by
 have:=List.Pairwise.and h hn
 grind
theorem qhv (xs:qDU):(Go.Lib.compact xs).length≤xs.length:=by
 grind [Go.Lib.compact,Go.Lib.compactUpTo]
theorem qjU {j:Nat}(h0:0<j)(hj:j<xs.length):Go.Lib.keeps xs.toArray j=decide (xs[j]≠xs[j-1]):=by
 grind [Go.Lib.keeps]
theorem qk7 (h:xs.Pairwise (·<·)):Go.Lib.compact xs=xs:=by
 grind [Go.Lib.compact_all,Go.Lib.keeps,qBN]
theorem qnO (h:xs.Pairwise (·≤·))(he:(Go.Lib.compact xs).length=xs.length):xs.Pairwise (·<·):=by
 unfold Go.Lib.compact Go.Lib.compactUpTo at he
 rw[qBD] at he
 have he':((qBx xs.length).filter (Go.Lib.keeps xs.toArray)).length=(qBx xs.length).length:=by simp_all
 have hk:=List.length_filter_eq_length_iff.1 he'
 rw[qBN]
 intro i j hi hj hij
 have h1:=hk j (by grind)
 rw[qjU (by omega) hj] at h1
 have h2:xs[j]≠xs[j-1]:=by grind
 have h3:=qBN.1 h (j-1) j (by omega) hj (by omega)
 have h4:xs[i]≤xs[j-1]:=by
  by_cases e:i=j-1
  ·simp_all
  ·exact qBN.1 h i (j-1) hi (by omega) (by omega)
 omega
theorem qb4:∀ {q:Int} {l:qDU},Ris q l→l.Pairwise (·<·)∧∀ z∈l,q<z
 | _,[],_=>by simp
 | q,x::l,h=>by
  obtain ⟨h1,h2⟩:=qb4 h.2.2
  have h3:=h.2.1
  refine ⟨qBJ.2 ⟨h2,h1⟩,fun z hz=>?_⟩
  grind
theorem qoi:∀ {q:Int} {l:qDU},l.Pairwise (·<·)→(∀ z∈l,q<z)→(∀ z∈l,Nd z)→Ris q l
 | _,[],_,_,_=>trivial
 | q,x::l,h,hq,hn=>⟨hn x (by simp),hq x (by simp),qoi (qBJ.1 h).2 (qBJ.1 h).1 fun z hz=>hn z (by grind)⟩
def cmn (l r:qDU):Bool:=l.any fun x=>r.contains x
theorem qr9 {l r:qDU}:cmn l r=false↔∀ x∈l,x∉r:=by simp[cmn]
def mrg (l r:qDU):qDU×Int:=if cmn l r then ([],6) else if 300<l.length+r.length then ([],2) else (srt (l++r),0)
theorem qso {n:Nat}(h:n≤1000000):vX F ([]:qDU) 0 (n:Int)=some []:=by
 unfold vX lett
 rw[if_neg (by simp)]
 have e1:isub .i64 ((0:Nat):Int) (([]:qDU).length:Int)=0:=by decide
 rw[e1,zV (by omega) (by omega),Int.sub_zero]
 by_cases h0:n=0
 ·subst h0;rfl
 ·simp only
  rw[if_pos (by grind)]
  have e2:sub ([]:qDU) 0 ((0:Nat):Int)=some []:=by decide
  have e3:appz 8796093022208 ([]:qDU) 0 (n:Int)=some (qBd n 0):=by
   grind [appz]
  rw[e2]
  simp only[qBb]
  rw[e3]
  rfl
theorem qtz (hF:20000≤F){a:qDU}(h:a.length+b.length≤1000000):zR F [a,b]=some (a++b):=by
 obtain ⟨k,rfl⟩:∃ k,F=k+3:=⟨F-3,by omega⟩
 have i0:idx [a,b] (0:Int)=some a:=rfl
 have i1:idx [a,b] (1:Int)=some b:=rfl
 have e0:iadd .i64 0 (a.length:Int)=(a.length:Int):=by rw[zj (by omega) (by omega)];omega
 have e1:iadd .i64 (a.length:Int) (b.length:Int)=((a.length+b.length:Nat):Int):=qb3 (by omega)
 have o1:iadd .i64 0 1=1:=by decide
 have o2:iadd .i64 1 1=2:=by decide
 have hs:kI (k+3) [a,b] ((a.length+b.length:Nat):Int)=some (a++b):=by
  unfold kI
  rw[qso h]
  simp only[qBb]
  show qR (k+3) [a,b] (zS (k+3) [a,b] (k+2)) [] 0=_
  unfold qR
  rw[if_pos (by simp),i0]
  simp only[qBb]
  rw[zU (by simp;omega),o1]
  simp only[qBb,qBy]
  show qR (k+3) [a,b] (zS (k+3) [a,b] (k+1)) a 1=_
  unfold qR
  rw[if_pos (by simp),i1]
  simp only[qBb]
  rw[zU (by omega),o2]
  simp only[qBb]
  show qR (k+3) [a,b] (zS (k+3) [a,b] k) (a++b) 2=_
  unfold qR
  rw[if_neg (by simp)]
  rfl
 unfold zR
 show qS (k+3) [a,b] (zT (k+3) [a,b] (k+2)) 0 0=_
 unfold qS
 rw[if_pos (by simp),i0]
 simp only[qBb]
 rw[e0,if_neg (by simp),o1]
 show qS (k+3) [a,b] (zT (k+3) [a,b] (k+1)) (a.length:Int) 1=_
 unfold qS
 rw[if_pos (by simp),i1]
 simp only[qBb]
 rw[e1,if_neg (by simp;omega),o2]
 show qS (k+3) [a,b] (zT (k+3) [a,b] k) ((a.length+b.length:Nat):Int) 2=_
 unfold qS
 rw[if_neg (by simp)]
 exact hs
theorem qs4 {l r:qDU}(hl:l.Pairwise (·<·))(hr:r.Pairwise (·<·)):(srt (l++r)).Pairwise (·<·)↔cmn l r=false:=by
 rw[qr9]
 constructor
 ·intro h x hx hx'
  have hn:(l++r).Nodup:=(qjq _).nodup_iff.1 (qpS h)
  grind
 grind [qpT,qop,qjq,qpS]
theorem qtK (hF:20000≤F){l r:qDU}(hl:l.Pairwise (·<·))(hr:r.Pairwise (·<·))(hm:l.length+r.length≤1000000) :
  ((zR F ([l,r]:List (qDU))).bind fun x16=>((zb F x16).bind fun x19=>(chk (decide (x19.length=x16.length)) (((kP F x19).bind fun x29=>((zD F x29).bind fun x32=>(if (decide ((x32.length:Int)<(x19.length:Int))) then some (([]:qDU),(6:Int)) else (if (decide (300<(x19.length:Int))) then some (([]:qDU),2) else some (x19,0)))))))))=some (mrg l r):=by
 rw[qtz hF hm]
 simp only[qBb]
 have hsl:(srt (l++r)).length=l.length+r.length:=by rw[qhV,qBk]
 unfold zb
 rw[if_pos (by grind)]
 simp only[qBb]
 unfold chk
 rw[if_pos (by simp_all)]
 unfold kP
 rw[zU (by grind)]
 simp only[qBb,qBy]
 unfold zD
 rw[if_pos (qhv _)]
 simp only[qBb]
 unfold mrg
 have hc:=qhv (srt (l++r))
 cases h:cmn l r
 ·grind [qs4,qk7]
 ·have hne:(Go.Lib.compact (srt (l++r))).length≠(srt (l++r)).length:=by
   grind [qs4,qnO,qop]
  grind
def cr:Int→qDU→Nat
 | _,[]=>0
 | v,y::t=>if y=v then 1+cr (v+1) t else 0
def rs:qDU→List (Int×Int)
 | []=>[]
 | x::t=>match rs t with
  | (y,n)::r=>if y=x+1 then (x,n+1)::r else (x,1)::(y,n)::r
  | []=>[(x,1)]
def rng:Int→Nat→qDU
 | _,0=>[]
 | a,n+1=>a::rng (a+1) n
def flat (R:List (Int×Int)):qDU:=R.flatMap fun r=>rng r.1 r.2.toNat
theorem qxF (v y:Int)(t:qDU):cr v (y::t)=if y=v then 1+cr (v+1) t else 0:=rfl
theorem qyf (x:Int)(t:qDU):rs (x::t)=match rs t with
  | (y,n)::r=>if y=x+1 then (x,n+1)::r else (x,1)::(y,n)::r
  | []=>[(x,1)]:=rfl
theorem quV:∀ (v:Int) (t:qDU),cr v t≤t.length
 | _,[]=>qBo _
 | v,y::t=>by
  unfold cr
  have:=quV (v+1) t
  grind
theorem quU:∀ (v:Int) (t:qDU) {j:Nat},j<cr v t→t[j]?=some (v+j)
 | _,[],_,h=>by simp[cr] at h
 | v,y::t,j,h=>by
  unfold cr at h
  split at h
  ·rename_i he
   cases j with
   | zero=>grind
   | succ j =>
    rw[qCM,quU (v+1) t (by omega)]
    grind
  omega
theorem quT:∀ (v:Int) (t:qDU) {y:Int},t[cr v t]?=some y→y≠v+cr v t
 | _,[],_,h=>by simp_all
 | v,x::t,y,h=>by
  unfold cr at h ⊢
  split at h
  ·rename_i he
   rw[if_pos he]
   rw[qCJ 1,qCM] at h
   have:=quT (v+1) t h
   omega
  simp_all
theorem qsY:∀ (x:Int) (t:qDU),rs (x::t)=(x,1+(cr (x+1) t:Int))::rs (t.drop (cr (x+1) t))
 | x,[]=>rfl
 | x,y::t=>by
  have ih:=qsY y t
  rw[qyf,ih,qxF]
  grind
theorem qeW:∀ (a:Int) (n:Nat),(rng a n).length=n
 | _,0=>rfl
 | a,n+1=>by rw[rng,qBA,qeW]
theorem qlB:∀ (a:Int) (n:Nat),rng a (n+1)=rng a n++[a+n]
 | a,0=>by simp[rng]
 | a,n+1=>by
  rw[rng,qlB (a+1) n,rng,qB2,show a+1+(n:Int)=a+((n+1:Nat):Int) from by omega]
theorem qd8:∀ {a z:Int} {n:Nat},z∈rng a n↔a≤z∧z<a+n
 | a,z,0=>by simp[rng]
 | a,z,n+1=>by
  rw[rng,qBi,qd8]
  omega
theorem yg (r:Int×Int)(R:List (Int×Int)):flat (r::R)=rng r.1 r.2.toNat++flat R:=rfl
theorem qpu (A B:List (Int×Int)):flat (A++B)=flat A++flat B:=by grind [flat]
theorem qu9 {z:Int}:z∈flat R↔∃ r∈R,r.1≤z∧z<r.1+r.2.toNat:=by
 grind [flat,qd8]
def Sep:Int→List (Int×Int)→Prop
 | _,[]=>True
 | e,r::R=>e<r.1∧1≤r.2∧Sep (r.1+r.2) R
theorem qwv {e e':Int}(h:Sep e R)(he:e'≤e):Sep e' R:=by
 cases R with
 | nil=>trivial
 | cons r R=>exact ⟨by have:=h.1;omega,h.2⟩
theorem qeX:∀ (l:qDU),flat (rs l)=l
 | []=>rfl
 | x::t=>by
  have ih:=qeX t
  unfold rs
  cases h:rs t with
  | nil =>
   grind [yg,rng]
  | cons p r =>
   obtain ⟨y,n⟩:=p
   rw[h] at ih
   simp only
   by_cases he:y=x+1
   ·rw[if_pos he]
    subst he
    rw[yg] at ih ⊢
    simp only at ih ⊢
    by_cases hn:0≤n
    ·rw[show (n+1).toNat=n.toNat+1 from by omega,rng,qB2,ih]
    ·exfalso
     have:∀ (l:qDU),∀ r∈rs l,1≤r.2:=by
      intro l
      induction l with
      | nil=>grind [rs]
      | cons x t ih =>
       intro r hr
       unfold rs at hr
       cases h:rs t with
       | nil=>simp_all
       | cons p q =>
        grind
     have:=this t (x+1,n) (by simp_all)
     omega
   grind [yg,rng]
theorem qlF:∀ {q:Int} {l:qDU},l.Pairwise (·<·)→(∀ z∈l,q<z)→Sep q (rs l)
 | _,[],_,_=>trivial
 | q,x::t,h,hq=>by
  have h':=qBJ.1 h
  have ih:Sep x (rs t):=qlF h'.2 h'.1
  have hx:=hq x (by simp)
  unfold rs
  cases hr:rs t with
  | nil=>exact ⟨hx,by simp,trivial⟩
  | cons p r =>
   obtain ⟨y,n⟩:=p
   rw[hr] at ih
   obtain ⟨i1,i2,i3⟩:=ih
   simp only at i1 i2 i3 ⊢
   by_cases he:y=x+1
   ·rw[if_pos he]
    subst he
    refine ⟨hx,by omega,?_⟩
    grind
   ·rw[if_neg he]
    exact ⟨hx,by simp,by omega,i2,i3⟩
theorem qrm:∀ {e:Int} {R:List (Int×Int)},Sep e R→∀ z∈flat R,e<z
 | _,[],_=>by simp[flat]
 | e,r::R,h=>by
  intro z hz
  rw[yg] at hz
  rcases qBg.1 hz with hz | hz
  ·have:=qd8.1 hz;have:=h.1;omega
  ·have:=qrm h.2.2 z hz;have:=h.1;have:=h.2.1;omega
theorem qwk:∀ (a:Int) (n:Nat),(rng a n).Pairwise (·<·)
 | _,0=>qDw
 | a,n+1=>qBJ.2 ⟨fun z hz=>by grind [qd8],qwk (a+1) n⟩
theorem qwu:∀ {e:Int} {R:List (Int×Int)},Sep e R→(flat R).Pairwise (·<·)
 | _,[],_=>by simp[flat]
 | e,r::R,h=>by
  rw[yg,qCp]
  refine ⟨qwk _ _,qwu h.2.2,fun x hx y hy=>?_⟩
  have h1:=qd8.1 hx
  have h2:=qrm h.2.2 y hy
  omega
theorem qg2:∀ {e:Int} {R:List (Int×Int)} (p:Int×Int→Bool),Sep e R→Sep e (R.filter p)
 | _,[],_,_=>trivial
 | e,r::R,p,h=>by
  have ih:=qg2 p h.2.2
  rw[qCW]
  split
  ·exact ⟨h.1,h.2.1,ih⟩
  ·exact qwv ih (by have:=h.1;have:=h.2.1;omega)
def vx {σ τ:Type}(yy:σ→(Int×Int)→Option (σ ⊕ τ)):List (Int×Int)→σ→Option (σ ⊕ τ)
 | [],s=>some (.inl s)
 | r::R,s=>(yy s r).bind (Sum.elim (fun s'=>vx yy R s') (fun t=>some (.inr t)))
def Mid (l:qDU):Prop:=∀ x∈l,-4611686018427387904≤x∧x≤4611686018427387904
theorem qwr {σ τ:Type}{F:Nat}{yy:σ→(Int×Int)→Option (σ ⊕ τ)}{rec31:(Int×σ)→Option (σ ⊕ τ)}{l:qDU}{i:Nat}{x:Int}{s:σ}(hl:l.length≤1000000)(hm:Mid l)(hx:l[i]?=some x) :
  ∀ (k j:Nat),cr (x+1) (l.drop (i+1))<k+j→j≤cr (x+1) (l.drop (i+1)) →
   vj F yy rec31 l (i:Int) s k ((1+j:Nat):Int)=qbm F yy rec31 l (i:Int) s ((1+cr (x+1) (l.drop (i+1)):Nat):Int)
 | 0,_,_,_=>by omega
 | k+1,j,h,hj=>by
  have hi:=(qBv.1 hx).1
  have hcl:=quV (x+1) (l.drop (i+1))
  rw[qB3] at hcl
  have hxm:=hm x (qBe hx)
  show qbl F yy rec31 l (i:Int) s (vj F yy rec31 l (i:Int) s k) ((1+j:Nat):Int)=_
  unfold qbl
  rw[qb3 (by omega)]
  by_cases hlt:i+(1+j)<l.length
  ·have hg:l[i+(1+j)]?=some l[i+(1+j)]:=qBc hlt
   have hd:(l.drop (i+1))[j]?=some l[i+(1+j)]:=by grind
   rw[if_pos (by grind),qo,qo,hx,hg]
   simp only[qBb]
   rw[zj (by omega) (by omega)]
   unfold qbn
   by_cases hjc:j<cr (x+1) (l.drop (i+1))
   ·have:=quU (x+1) (l.drop (i+1)) hjc
    rw[hd,qBl] at this
    rw[if_pos (by grind),qs (by omega),show 1+j+1=1+(j+1) from by omega]
    exact qwr hl hm hx k (j+1) (by omega) (by omega)
   ·obtain rfl:j=cr (x+1) (l.drop (i+1)):=by omega
    grind [quT]
  ·obtain rfl:j=cr (x+1) (l.drop (i+1)):=by omega
   rw[if_neg (by grind)]
   rfl
theorem qws {σ τ:Type}{F:Nat}{yy:σ→(Int×Int)→Option (σ ⊕ τ)}{l:qDU}(hl:l.length≤1000000)(hF:l.length+1<F)(hm:Mid l) :
  ∀ (k i:Nat) (s:σ),l.length<k+i→i≤l.length→zp F yy l k ((i:Int),s)=vx yy (rs (l.drop i)) s
 | 0,_,_,_,_=>by omega
 | k+1,i,s,h,hi=>by
  show qbk F yy l (zp F yy l k) (i:Int) s=_
  unfold qbk
  by_cases hlt:i<l.length
  ·have hcl:=quV (l[i]+1) (l.drop (i+1))
   rw[qB3] at hcl
   have h1:=qwr (F:=F) (yy:=yy) (rec31:=zp F yy l k) (s:=s) hl hm (qBc hlt) F 0 (by omega) (by omega)
   rw[show ((1+0:Nat):Int)=1 from rfl] at h1
   rw[if_pos (by simp_all),h1,qBj hlt,qsY]
   unfold qbm vx
   rw[qo,qBc hlt]
   simp only[qBb]
   rw[qb3 (by omega),show ((1+cr (l[i]+1) (l.drop (i+1)):Nat):Int)=1+(cr (l[i]+1) (l.drop (i+1)):Int) from by omega]
   congr 2
   funext s'
   rw[qws hl hF hm k _ s' (by omega) (by omega),List.drop_drop]
   grind
  ·rw[if_neg (by simp_all),qBm (by omega)]
   rfl
theorem qyg {σ τ:Type}{yy:σ→(Int×Int)→Option (σ ⊕ τ)}{l:qDU}{s:σ}(hl:l.length≤1000000)(hF:l.length+1<F)(hm:Mid l):qb8 F yy l s=vx yy (rs l) s:=by
 unfold qb8
 exact qws hl hF hm F 0 s (by omega) (by omega)
def spO (least:Int)(R:List (Int×Int)):List (Int×Int):=R.filter fun r=>decide (least≤r.2)
def spS (least:Int)(R:List (Int×Int)):List (Int×Int):=R.filter fun r=>decide (r.2<least)
theorem qzj {least:Int}(h:least≤r.2):spO least (r::R)=r::spO least R:=by grind [spO]
theorem qzi {least:Int}(h:¬ least≤r.2):spO least (r::R)=spO least R:=by grind [spO]
theorem qzl {least:Int}(h:¬ least≤r.2):spS least (r::R)=r::spS least R:=by grind [spS]
theorem qzk {least:Int}(h:least≤r.2):spS least (r::R)=spS least R:=by grind [spS]
theorem qm5 {F:Nat}{o:List (Int×Int)}{a n:Int}(ha:-4611686018427387904≤a∧a≤4611686018427387904)(hn:0≤n∧n≤1000000){rest:qDU}(hr:rest.length≤1000000):∀ (k j:Nat),n.toNat<k+j→j≤n.toNat →
  qgc F o a n k ((j:Int),rest++rng a j)=some (.inl (rest++rng a n.toNat,o))
 | 0,_,_,_=>by omega
 | k+1,j,h,hj=>by
  show qgb F o a n (qgc F o a n k) (j:Int) (rest++rng a j)=_
  unfold qgb
  by_cases hlt:j<n.toNat
  ·rw[if_pos (by simp_all),zU (by simp[qeW];omega),zj (by omega) (by omega),qs (by omega)]
   simp only[qBb]
   rw[qBn,← qlB]
   exact qm5 ha hn hr k (j+1) (by omega) (by omega)
  grind
def Small (R:List (Int×Int)):Prop:=∀ r∈R,(-4611686018427387904≤r.1∧r.1≤4611686018427387904)∧0≤r.2∧r.2≤1000000
def rawY (F:Nat)(least:Int)(s:qDU×List (Int×Int))(r:Int×Int):Option ((qDU×List (Int×Int)) ⊕ Empty):=qb7 F least s.1 s.2 r.1 r.2
theorem qj4 {F:Nat}{least:Int}(hF:1000001<F):∀ (R:List (Int×Int)) (rest:qDU) (o:List (Int×Int)),Small R→rest.length+(flat R).length≤1000000→o.length+R.length≤1000000 →
  vx (rawY F least) R (rest,o)=some (.inl (rest++flat (spS least R),o++spO least R))
 | [],rest,o,_,_,_=>by simp[vx,spS,spO,flat]
 | (a,n)::R,rest,o,hs,h1,h2=>by
  have hr:=hs (a,n) (by simp)
  have hs':Small R:=fun r hr=>hs r (by grind)
  rw[yg,qBk,qeW] at h1
  rw[qBA] at h2
  simp only at hr h1
  show ((qb7 F least rest o a n).bind _)=_
  unfold qb7
  by_cases h:least≤n
  ·rw[if_pos (by grind),zU (by grind)]
   simp only[qBb,Sum.elim_inl]
   rw[qj4 hF R _ _ hs' (by omega) (by grind)]
   grind [qzj,qzk]
  ·rw[if_neg (by grind)]
   have hl:=qm5 (F:=F) (o:=o) hr.1 hr.2 (rest:=rest) (by omega) F 0 (by omega) (by omega)
   rw[rng,qBR] at hl
   rw[show ((0:Nat):Int)=0 from rfl] at hl
   rw[hl]
   simp only[qBb,Sum.elim_inl]
   rw[qj4 hF R _ _ hs' (by grind [qeW]) (by omega)]
   grind [qzi,qzl,yg]
theorem qwp:∀ {q:Int} {R:List (Int×Int)},Sep q R→∀ r∈R,1≤r.2
 | _,[],_=>by simp
 | q,r::R,h=>by
  intro r' hr
  rcases qBi.1 hr with rfl | hr
  ·exact h.2.1
  ·exact qwp h.2.2 r' hr
theorem qjQ (hr:r∈R):r.2.toNat≤(flat R).length:=by
 obtain ⟨A,B,rfl⟩:=List.append_of_mem hr
 grind [qpu,yg,qeW]
theorem qjP (h:Sep q R):R.length≤(flat R).length:=by
 induction R generalizing q with
 | nil=>simp
 | cons r R ih =>
  have:=ih h.2.2
  have:=h.2.1
  grind [yg,qeW]
theorem qsP {l:qDU}(h:Ris q l):Mid l:=fun x hx=>by have:=qj3 h x hx;grind [Nd]
theorem qwq {l:qDU}(hl:l.length≤1000000)(h:Ris q l):Small (rs l):=by
 intro r hr
 have hs:=qlF (qb4 h).1 (qb4 h).2
 have h1:=qwp hs r hr
 have h2:=qjQ hr
 have hf:r.1∈flat (rs l):=qu9.2 ⟨r,hr,by omega,by omega⟩
 rw[qeX] at h2 hf
 have h3:=qsP h _ hf
 omega
theorem qrk (hF:2000000≤F){l:qDU}{least:Int}(hl:l.length≤300)(h:Ris q l):qgN F l least=some (spO least (rs l),flat (spS least (rs l))):=by
 unfold qgN qhs
 simp only[qBb]
 have hs:=qlF (qb4 h).1 (qb4 h).2
 have hlong:=qjP hs
 rw[qeX] at hlong
 have hf:=qj4 (F:=F) (least:=least) (by omega) (rs l) [] [] (qwq (by omega) h) (by grind [qeX]) (by grind)
 have he:=qyg (yy:=rawY F least) (s:=(([]:qDU),([]:List (Int×Int)))) (by omega) (by omega:l.length+1<F) (qsP h)
 rw[hf] at he
 show ((qb8 F (rawY F least) l ([],[])).bind _)=_
 simp_all
def rowE (n:Int):Int→qDU→Int
 | _,[]=>0
 | last,x::l=>if x<0∨n≤x then 3 else if x≤last then 4 else rowE n x l
def gE (n:Int):List (qDU)→Int
 | []=>0
 | l::g=>if rowE n (-1) l≠0 then rowE n (-1) l else gE n g
def gtot:List (qDU)→Nat
 | []=>0
 | l::g=>l.length+gtot g
def gchk (g:List (qDU)):Int:=if 100<g.length then 2 else if gE g.length g≠0 then gE g.length g else if 600<gtot g then 2 else 0
theorem qkI:∀ {n last:Int} {l:qDU},rowE n last l=0↔(l.Pairwise (·<·)∧∀ x∈l,last<x)∧∀ x∈l,0≤x∧x<n
 | n,last,[]=>by simp[rowE]
 | n,last,x::l=>by
  unfold rowE
  by_cases h1:x<0∨n≤x
  ·rw[if_pos h1]
   constructor
   ·omega
   ·rintro ⟨_,h⟩;have:=h x (by simp);omega
  ·rw[if_neg h1]
   by_cases h2:x≤last
   ·grind
   ·rw[if_neg h2,qkI,qBJ]
    grind
theorem qok {n last:Int}:∀ {l:qDU},-1≤last→last<n→rowE n last l=0→last+1+l.length≤n
 | [],h1,h2,_=>by grind
 | x::l,h1,h2,h=>by
  unfold rowE at h
  split at h
  ·omega
  ·split at h
   ·omega
   ·have:=qok (l:=l) (by omega) (by omega) h
    grind
theorem qve {n:Int}:∀ {g:List (qDU)},gE n g=0↔∀ l∈g,rowE n (-1) l=0
 | []=>by simp[gE]
 | l::g=>by
  unfold gE
  by_cases h:rowE n (-1) l=0
  ·rw[if_neg (by omega),qve];grind
  simp_all
def Gr (g:List (qDU)):Prop:=g.length≤100∧(∀ l∈g,l.Pairwise (·<·)∧∀ x∈l,0≤x∧x<g.length)∧gtot g≤600
theorem jA:gchk g=0↔Gr g:=by
 unfold gchk Gr
 by_cases h1:100<g.length
 ·omega
 ·rw[if_neg h1]
  by_cases h2:gE g.length g=0
  ·rw[if_neg (by omega)]
   have h3:=qve.1 h2
   have h4:∀ l∈g,l.Pairwise (·<·)∧∀ x∈l,0≤x∧x<(g.length:Int):=fun l hl=>by
    grind [qkI]
   grind
  grind [qve,qkI]
theorem qdG (h:Gr g){l:qDU}(hl:l∈g):l.length≤100:=by
 have h1:=(h.2.1 l hl).2
 have h2:rowE g.length (-1) l=0:=qkI.2 ⟨⟨(h.2.1 l hl).1,fun x hx=>by grind⟩,h1⟩
 have:=qok (by omega) (by omega) h2
 have:=h.1
 omega
theorem qph {F:Nat}{rec38:(Int×Int)→Option Int}{g:List (qDU)}{m i:Int}{l:qDU}(hg:g.length≤100):∀ (k j:Nat) (last:Int),102<k+j→(j:Int)≤last+1→last<g.length→-1≤last →
  qc0 F rec38 g m i l k (last,(j:Int))=if rowE g.length last (l.drop j)≠0 then some (rowE g.length last (l.drop j)) else qbg F rec38 m i l
 | 0,j,last,h,h1,h2,h3=>by omega
 | k+1,j,last,h,h1,h2,h3=>by
  show qcX F rec38 g m i l (qc0 F rec38 g m i l k) last (j:Int)=_
  unfold qcX
  by_cases hlt:j<l.length
  ·rw[if_pos (by simp_all),qo,qBc hlt,qBj hlt]
   simp only[qBb]
   unfold rowE
   by_cases c1:l[j]<0∨(g.length:Int)≤l[j]
   ·simp_all
   ·rw[if_neg (by grind),if_neg c1]
    by_cases c2:l[j]≤last
    ·simp_all
    ·rw[if_neg (by grind),if_neg c2,qs (by omega)]
     exact qph hg k (j+1) l[j] (by omega) (by omega) (by omega) (by omega)
  grind [qBm,rowE]
theorem qmC {F:Nat}(hF:1000≤F){g:List (qDU)}(hg:g.length≤100):∀ (k i:Nat) (m:Nat),g.length<k+i→i≤g.length→m≤100*i →
  vh F g k ((m:Int),(i:Int))=if gE g.length (g.drop i)≠0 then some (gE g.length (g.drop i)) else if 600<m+gtot (g.drop i) then some 2 else some 0
 | 0,_,_,_,_,_=>by omega
 | k+1,i,m,h,hi,hm=>by
  show qcW F g (vh F g k) (m:Int) (i:Int)=_
  unfold qcW
  by_cases hlt:i<g.length
  ·rw[if_pos (by simp_all),qo,qBc hlt,qBj hlt]
   simp only[qBb]
   have hin:=qph (F:=F) (rec38:=vh F g k) (m:=(m:Int)) (i:=(i:Int)) (l:=g[i]) hg F 0 (-1) (by omega) (by omega) (by omega) (by omega)
   rw[qBL,show ((0:Nat):Int)=0 from rfl] at hin
   rw[hin]
   unfold gE gtot
   by_cases hr:rowE g.length (-1) g[i]=0
   ·have hlen:=qok (by omega) (by omega) hr
    have e:(if rowE (g.length:Int) (-1) g[i]≠0 then rowE (g.length:Int) (-1) g[i] else gE (g.length:Int) (g.drop (i+1)))=gE (g.length:Int) (g.drop (i+1)):=if_neg (by omega)
    rw[if_neg (show ¬ rowE (g.length:Int) (-1) g[i]≠0 by omega),e]
    unfold qbg qcZ
    rw[qb3 (by omega),qs (by omega),qmC hF hg k (i+1) (m+g[i].length) (by omega) (by omega) (by omega),qC9]
   simp_all
  grind [qcY,gE,gtot]
theorem jL (hF:1000≤F):kM F g=some (gchk g):=by
 unfold kM gchk
 by_cases h:100<g.length
 ·grind
 ·have:=qmC hF (g:=g) (by omega) F 0 0 (by omega) (by omega) (by omega)
  grind
def af (i:Nat):List (qDU)→List (Int×Int)
 | []=>[]
 | l::g=>l.map (fun x=>((i:Int),x))++af (i+1) g
theorem qkl {σ τ:Type}{yy:σ→(Int×Int)→Option (σ ⊕ τ)}:∀ (A B:List (Int×Int)) (s:σ),vx yy (A++B) s=(vx yy A s).bind (Sum.elim (fun s'=>vx yy B s') (fun t=>some (.inr t)))
 | [],B,s=>rfl
 | p::A,B,s=>by
  show (yy s p).bind _=((yy s p).bind _).bind _
  cases yy s p with
  | none=>rfl
  | some r =>
   cases r with
   | inl s'=>exact qkl A B s'
   | inr t=>rfl
theorem quz {σ τ:Type}{F:Nat}{yy:σ→(Int×Int)→Option (σ ⊕ τ)}{rec7:(Int×σ)→Option (σ ⊕ τ)}{i:Int}{l:qDU}(hm:l.length≤1000000):∀ (k j:Nat) (s:σ),l.length<k+j→j≤l.length →
  js F yy rec7 i l k ((j:Int),s)=(vx yy ((l.drop j).map fun x=>(i,x)) s).bind (Sum.elim (fun s'=>qbR F yy rec7 i s') (fun t=>some (.inr t)))
 | 0,_,_,_,_=>by omega
 | k+1,j,s,h,hj=>by
  show qbf F yy rec7 i l (js F yy rec7 i l k) (j:Int) s=_
  unfold qbf
  by_cases hlt:j<l.length
  ·rw[if_pos (by simp_all),qo,qBc hlt,qBj hlt,qBU]
   simp only[qBb,vx]
   cases yy s (i,l[j]) with
   | none=>rfl
   | some r =>
    cases r with
    | inl s' =>
     simp only[qBb,Sum.elim_inl]
     rw[qs (by omega)]
     exact quz hm k (j+1) s' (by omega) (by omega)
    | inr t=>rfl
  ·rw[if_neg (by simp_all),qBm (by omega)]
   rfl
theorem qrX {σ τ:Type}{F:Nat}{yy:σ→(Int×Int)→Option (σ ⊕ τ)}{g:List (qDU)}(hm:g.length≤1000000)(hr:∀ l∈g,l.length≤1000000∧l.length<F):∀ (k i:Nat) (s:σ),g.length<k+i→i≤g.length →
  km F yy g k ((i:Int),s)=vx yy (af i (g.drop i)) s
 | 0,_,_,_,_=>by omega
 | k+1,i,s,h,hi=>by
  show qbQ F yy g (km F yy g k) (i:Int) s=_
  unfold qbQ
  by_cases hlt:i<g.length
  ·have hrow:=hr _ (qBu hlt)
   rw[if_pos (by simp_all),qo,qBc hlt,qBj hlt]
   simp only[qBb]
   have:=quz (F:=F) (yy:=yy) (rec7:=km F yy g k) (i:=(i:Int)) hrow.1 F 0 s (by omega) (by omega)
   rw[qBL,show ((0:Nat):Int)=0 from rfl] at this
   rw[this]
   unfold af
   rw[qkl]
   congr 1
   funext r
   cases r with
   | inl s' =>
    simp only[Sum.elim_inl]
    unfold qbR
    rw[qs (by omega)]
    exact qrX hm hr k (i+1) s' (by omega) (by omega)
   | inr t=>rfl
  ·rw[if_neg (by simp_all),qBm (by omega)]
   rfl
theorem qqH {σ τ:Type}{yy:σ→(Int×Int)→Option (σ ⊕ τ)}{s:σ}(hF:g.length<F)(hm:g.length≤1000000)(hr:∀ l∈g,l.length≤1000000∧l.length<F):jE F yy g s=vx yy (af 0 g) s:=by
 unfold jE
 have:=qrX (yy:=yy) hm hr F 0 s (by omega) (by omega)
 simp_all
theorem qtg {σ τ:Type}{F:Nat}{yy:σ→(Int×Int)→Option (σ ⊕ τ)}{l:List (Int×Int)}(hm:l.length≤1000000):∀ (k i:Nat) (s:σ),l.length<k+i→i≤l.length →
  zg F yy l k ((i:Int),s)=vx yy (l.drop i) s
 | 0,_,_,_,_=>by omega
 | k+1,i,s,h,hi=>by
  show zP F yy l (zg F yy l k) (i:Int) s=_
  unfold zP
  by_cases hlt:i<l.length
  ·rw[if_pos (by simp_all),qo,qBc hlt,qBj hlt]
   simp only[qBb,vx]
   cases yy s l[i] with
   | none=>rfl
   | some r =>
    cases r with
    | inl s' =>
     simp only[qBb,Sum.elim_inl]
     rw[qs (by omega)]
     exact qtg hm k (i+1) s' (by omega) (by omega)
    | inr t=>rfl
  ·rw[if_neg (by simp_all),qBm (by omega)]
   rfl
theorem qlc {τ:Type}{lim:Nat}{f:Int×Int→Int×Int}{yy:List (Int×Int)→(Int×Int)→Option (List (Int×Int) ⊕ τ)}(hy:∀ s p,yy s p=(app lim s [f p]).bind fun z=>some (.inl z)):∀ (L s:List (Int×Int)),s.length+L.length≤lim→vx yy L s=some (.inl (s++L.map f))
 | [],s,_=>by simp[vx]
 | p::L,s,h=>by
  rw[qBA] at h
  show (yy s p).bind _=_
  rw[hy,zU (by grind)]
  simp only[qBb,Sum.elim_inl]
  rw[qlc hy L (s++[f p]) (by grind)]
  simp
theorem qnI:∀ (i:Nat) (g:List (qDU)),(af i g).length=gtot g
 | _,[]=>rfl
 | i,l::g=>by unfold af gtot;rw[qBk,qBD,qnI (i+1) g]
theorem qnN {l:List (Int×Int)}(hF:l.length<F)(hm:l.length≤1000000):qM F l=some l:=by
 unfold qM qN yn
 have:=fun yy=>qtg (σ:=List (Int×Int)) (τ:=Empty) (F:=F) (yy:=yy) hm F 0 [] (by omega) (by omega)
 rw[show ((0:Nat):Int)=0 from rfl] at this
 rw[this,qBL,qlc (lim:=4398046511104) (f:=fun p=>p) ?hy l [] (by grind)]
 ·simp
 ·exact fun s p=>rfl
theorem quu (hF:1000≤F)(h:Gr g):qc1 F g=some ((af 0 g).map fun p=>(p.2,p.1)):=by
 unfold qc1 qao
 have h1:=h.1
 have h2:=h.2.2
 simp only[qBb]
 rw[qqH (by omega) (by omega) (fun l hl=>by grind [qdG]),qlc (lim:=4398046511104) (f:=fun p=>(p.2,p.1)) ?hy (af 0 g) [] (by grind [qnI])]
 ·simp
 ·exact fun s p=>rfl
def lexLt (p q:Int×Int):Prop:=p.1<q.1∨(p.1=q.1∧p.2<q.2)
instance decLex (p q:Int×Int):Decidable (lexLt p q):=by unfold lexLt;infer_instance
theorem qmO (a:Int×Int):¬ lexLt a a:=by unfold lexLt;omega
theorem qvz (a b d:Int×Int):lexLt a b→lexLt b d→lexLt a d:=by unfold lexLt;omega
theorem qmP (a b:Int×Int):lexLt a b∨a=b∨lexLt b a:=by
 grind [lexLt]
theorem qk8 {x y:Int}:jh F x y=some (if x<y then -1 else if y<x then 1 else 0):=by
 unfold jh vo
 grind
theorem qAT (hF:3≤F){x y:Int}:qeL F [x,y]=some (if x≠0 then x else y):=by
 obtain ⟨k,rfl⟩:=Nat.exists_eq_add_of_le hF
 rw[qCJ]
 unfold qeL
 show qaO (k+3) [x,y] (qeo (k+3) [x,y] (k+2)) 0=_
 unfold qaO
 rw[if_pos (by simp)]
 show ((some x).bind _)=_
 simp only[qBb]
 by_cases hx:x=0
 ·rw[if_neg (by grind),if_neg (by omega)]
  show qaO (k+3) [x,y] (qeo (k+3) [x,y] (k+1)) 1=_
  unfold qaO
  rw[if_pos (by simp)]
  show ((some y).bind _)=_
  simp only[qBb]
  by_cases hy:y=0
  ·rw[if_neg (by grind),hy]
   rfl
  simp_all
 simp_all
theorem qvP (hF:3≤F)(a b:Int×Int):∃ z,qdW F a.1 a.2 b.1 b.2=some z∧(z<0↔lexLt a b):=by
 unfold qdW
 rw[qk8,qk8]
 simp only[qBb]
 rw[qAT hF]
 simp only[qBb]
 grind [lexLt]
def srtA (l:List (Int×Int)):List (Int×Int):=l.mergeSort fun a b=>decide (¬ lexLt b a)
theorem qe2 (l:List (Int×Int)):(srtA l).Perm l:=List.mergeSort_perm l _
theorem qs3 (l:List (Int×Int)):(srtA l).Pairwise fun a b=>¬ lexLt b a:=by
 have h:=List.pairwise_mergeSort (le:=fun a b:Int×Int=>decide (¬ lexLt b a)) (fun a b c h1 h2=>by simp only[decide_eq_true_eq] at *;grind [lexLt]) (fun a b=>by simp only[qCE,decide_eq_true_eq];unfold lexLt;omega) l
 exact h.imp (fun h=>by grind)
theorem qlS (l:List (Int×Int)):(srtA l).length=l.length:=(qe2 l).length_eq
theorem qmQ {l:List (Int×Int)}(h:l.Pairwise lexLt):l.Nodup:=List.Pairwise.imp (S:=fun a b=>a≠b) (fun {a b} h (he:a=b)=>qmO a (by simp_all)) h
theorem qp8 {l:List (Int×Int)}(h:l.Nodup):(srtA l).Pairwise lexLt:=by
 have h1:(srtA l).Nodup:=(qe2 l).nodup_iff.2 h
 refine (List.Pairwise.and (qs3 l) h1).imp fun {a b} h=>?_
 grind [qmP]
theorem qp3 {l:List (Int×Int)}(hF:3≤F)(hl:l.length≤1000000):zL F l=some (srtA l) :=
 qwA (lt:=lexLt) (fun a _ b _=>qvP hF a b) qmO qvz qmP (by omega) (qe2 l) (qs3 l)
theorem qmt {l:List (Int×Int)}(hF:3≤F)(hF2:l.length<F)(hl:l.length≤1000000):ql F l=some (srtA l):=by
 grind [ql,qnN,qp3,chk,qlS]
theorem pwx:∀ {A B:qDU},A.Pairwise (·<·)→B.Pairwise (·<·)→(∀ z,z∈A↔z∈B)→A=B:=by
 intro A B hA hB h
 have nd:∀ {C:qDU},C.Pairwise (·<·)→C.Nodup:=fun hC=>hC.imp fun h=>by omega
 grind [qCo]
def rowOf (l:List (Int×Int))(i:Int):qDU:=(l.filter fun p=>decide (p.1=i)).map (·.2)
def tab (n:Nat)(l:List (Int×Int)):List (qDU):=(qBx n).map fun (i:Nat)=>rowOf l (i:Int)
theorem qh1 (n:Nat)(l:List (Int×Int)):(tab n l).length=n:=by simp[tab]
theorem qjx {n i:Nat}{l:List (Int×Int)}(h:i<n):(tab n l)[i]?=some (rowOf l i):=by simp[tab,h]
theorem qgA (l:List (Int×Int))(i:Int):(rowOf l i).length≤l.length:=by
 grind [rowOf]
theorem qjy {n:Nat}{l:List (Int×Int)}{b:Int}:tab n (l++[((a:Int),b)])=(tab n l).set a (rowOf l a++[b]):=by
 apply qB8 (by simp[tab])
 intro i h1 h2
 rw[qh1] at h1
 rw[List.getElem_set]
 simp only[tab,List.getElem_map,List.getElem_range]
 grind [rowOf]
theorem qtc (n:Nat):tab n []=qBd n []:=by
 apply qB8 (by simp[tab])
 grind [tab,rowOf]
theorem qre {n:Nat}{lim:Nat}(h:n≤lim):mk lim ([]:qDU) (n:Int)=some (tab n []):=by
 grind [mk,qtc]
def InR (n:Nat)(l:List (Int×Int)):Prop:=∀ p∈l,0≤p.1∧p.1<(n:Int)∧0≤p.2∧p.2<(n:Int)
theorem qbX {α:Type}{l:List α}{j:Nat}(h:j<l.length):l.take (j+1)=l.take j++[l[j]]:=by
 simp
theorem qr2 {F n:Nat}{l:List (Int×Int)}(hl:∀ p∈l,0≤p.1∧p.1<(n:Int))(hm:l.length≤1000000):∀ (k j:Nat),l.length<k+j→j≤l.length →
  qdC F l k ((j:Int),tab n (l.take j))=some (tab n l)
 | 0,_,_,_=>by omega
 | k+1,j,h,hj=>by
  show qdB F l (qdC F l k) (j:Int) (tab n (l.take j))=_
  unfold qdB
  by_cases hlt:j<l.length
  ·obtain ⟨h1,h2⟩:=hl _ (qBu hlt)
   have hrec:=qr2 (F:=F) hl hm k (j+1) (by omega) (by omega)
   obtain ⟨a,ha⟩:=qBf h1
   have e:l[j]=((a:Int),l[j].2):=by grind
   rw[qbX hlt,e,qjy] at hrec
   have hrl:=qgA (l.take j) (a:Int)
   rw[qBW] at hrl
   rw[if_pos (by grind),qo,qBc hlt]
   grind [qo,qjx,zU,lett,qs]
  ·rw[if_neg (by simp_all),qB9 (by omega)]
   rfl
theorem quG {n:Nat}{l:List (Int×Int)}(hl:∀ p∈l,0≤p.1∧p.1<(n:Int))(hm:l.length≤1000000)(hF:l.length<F)(hn:n≤1000000):qb5 F (n:Int) l=some (tab n l):=by
 unfold qb5
 rw[qre (by omega)]
 simp only[qBb]
 have:=qr2 (F:=F) hl hm F 0 (by omega) (by omega)
 simp_all
def IsTab (n:Nat)(l:List (Int×Int))(T:List (qDU)):Prop :=
 T.length=n∧∀ (i:Nat) (r:qDU),T[i]?=some r→r.Pairwise (·<·)∧∀ x,x∈r↔((i:Int),x)∈l
theorem qlj {n:Nat}{l l':List (Int×Int)}{T':List (qDU)}(h:IsTab n l T)(h':IsTab n l' T')(hm:∀ p,p∈l↔p∈l'):T=T':=by
 apply qB8 (by rw[h.1,h'.1])
 intro i h1 h2
 have a:=h.2 i _ (qBc h1)
 have b:=h'.2 i _ (qBc h2)
 grind [pwx]
theorem qmT {l:List (Int×Int)}{x:Int}:x∈rowOf l i↔(i,x)∈l:=by
 unfold rowOf
 simp
theorem qwl {l:List (Int×Int)}(h:l.Pairwise lexLt):(rowOf l i).Pairwise (·<·):=by
 unfold rowOf
 rw[qCR]
 refine (h.filter _).imp_of_mem fun {a b} ha hb hab=>?_
 simp_all [lexLt]
theorem quq {n:Nat}{l:List (Int×Int)}(h:l.Pairwise lexLt):IsTab n l (tab n l):=by
 refine ⟨qh1 n l,fun i r hr=>?_⟩
 grind [qh1,qjx,qwl,qmT]
theorem qpC {n:Nat}{l l':List (Int×Int)}(h:IsTab n l T)(hm:∀ p,p∈l↔p∈l'):IsTab n l' T :=
 ⟨h.1,fun i r hr=>⟨(h.2 i r hr).1,fun x=>by rw[(h.2 i r hr).2,hm]⟩⟩
theorem qjW:∀ {g:List (qDU)} {k:Nat} {p:Int×Int},p∈af k g↔∃ i r,g[i]?=some r∧p.1=((k+i:Nat):Int)∧p.2∈r
 | [],k,p=>by simp[af]
 | l::g,k,p=>by
  unfold af
  rw[qBg,qjW (g:=g),qBI]
  constructor
  ·rintro (⟨x,hx,rfl⟩ | ⟨i,r,h1,h2,h3⟩)
   ·exact ⟨0,l,by simp,by simp,hx⟩
   ·exact ⟨i+1,r,by grind,by omega,h3⟩
  grind
theorem quy:∀ {g:List (qDU)} {k:Nat},(∀ r∈g,r.Pairwise (·<·))→(af k g).Pairwise lexLt
 | [],k,_=>by simp[af]
 | l::g,k,h=>by
  unfold af
  rw[qCp]
  refine ⟨?_,quy fun r hr=>h r (by grind),?_⟩
  ·rw[qCR]
   exact (h l (by simp)).imp fun h=>.inr ⟨rfl,h⟩
  ·intro a ha b hb
   obtain ⟨x,_,rfl⟩:=qBI.1 ha
   obtain ⟨i,r,_,h2,_⟩:=qjW.1 hb
   left
   omega
theorem qux (h:∀ r∈g,r.Pairwise (·<·)):IsTab g.length (af 0 g) g:=by
 refine ⟨rfl,fun i r hr=>⟨h r (qBe hr),fun x=>?_⟩⟩
 grind [qjW]
theorem qpD {n:Nat}{l:List (Int×Int)}(h:IsTab n l T):∀ r∈T,r.Pairwise (·<·):=fun r hr=>by
 obtain ⟨i,hi⟩:=qCf hr
 exact (h.2 i r hi).1
theorem qtJ {n:Nat}{l:List (Int×Int)}(h:IsTab n l T)(hl:InR n l)(p:Int×Int):p∈af 0 T↔p∈l:=by
 rw[qjW]
 constructor
 ·rintro ⟨i,r,h1,h2,h3⟩
  have:=((h.2 i r h1).2 p.2).1 h3
  grind
 ·intro hp
  obtain ⟨h1,h2,_,_⟩:=hl p hp
  obtain ⟨a,ha⟩:=qBf h1
  have hlt:a<T.length:=by rw[h.1];omega
  refine ⟨a,T[a],qBc hlt,by omega,?_⟩
  rw[(h.2 a _ (qBc hlt)).2,← ha]
  omega
theorem qli {n:Nat}{l:List (Int×Int)}(h:IsTab n l T)(hl:InR n l)(hn:l.Nodup):(af 0 T).Perm l :=
 (List.perm_ext_iff_of_nodup (qmQ (quy (qpD h))) hn).2 (qtJ h hl)
theorem qvq {n:Nat}{l:List (Int×Int)}(h:IsTab n l T)(hl:InR n l)(hn:n≤100)(hm:(af 0 T).length≤600):Gr T:=by
 refine ⟨by rw[h.1];omega,fun r hr=>⟨qpD h r hr,fun x hx=>?_⟩,by grind [qnI]⟩
 obtain ⟨i,hi⟩:=qCf hr
 have:=hl _ (((h.2 i r hi).2 x).1 hx)
 rw[h.1]
 omega
theorem qjf (h:Gr g):InR g.length (af 0 g):=fun p hp=>by
 obtain ⟨i,r,h1,h2,h3⟩:=qjW.1 hp
 have h4:=(qBv.1 h1).1
 have h5:=(h.2.1 r (qBe h1)).2 _ h3
 omega
theorem qy7 (h:Gr g):∀ r∈g,r.Pairwise (·<·):=fun r hr=>(h.2.1 r hr).1
theorem qm9 {n:Nat}{l:List (Int×Int)}(h:l.Nodup):IsTab n l (tab n (srtA l)) :=
 qpC (quq (qp8 h)) fun _=>(qe2 l).mem_iff
def cols (l:List (Int×Int))(i j:Nat):qDU:=((qBx j).filter fun (c:Nat)=>decide (((i:Int),(c:Int))∈l)).map fun (c:Nat)=>(c:Int)
theorem quP (l:List (Int×Int))(i j:Nat):(cols l i j).length≤j:=by
 grind [cols]
theorem qqN {n:Nat}{l:List (Int×Int)}(hl:InR n l):IsTab n l ((qBx n).map fun i=>cols l i n):=by
 refine ⟨by simp,fun i r hr=>?_⟩
 have hi:i<n:=by grind
 simp only[qCr,qDl hi,qCh,qBl] at hr
 subst hr
 unfold cols
 constructor
 ·rw[qCR]
  exact (List.pairwise_lt_range.filter _).imp fun h=>by omega
 ·intro x
  rw[qBI]
  constructor
  ·grind
  ·intro h
   have:=hl _ h
   grind [qBf]
def gsw (l:List (Int×Int)):List (Int×Int):=l.map fun p=>(p.2,p.1)
theorem qj7 (l:List (Int×Int)):(gsw l).length=l.length:=by simp[gsw]
theorem qAl {l:List (Int×Int)}{p:Int×Int}:p∈gsw l↔(p.2,p.1)∈l:=by
 unfold gsw
 grind
theorem qs6 {n:Nat}{l:List (Int×Int)}(h:InR n l):InR n (gsw l):=fun p hp=>by
 have:=h _ (qAl.1 hp)
 omega
theorem qjt {l:List (Int×Int)}(h:l.Nodup):(gsw l).Nodup:=by
 grind [gsw]
theorem qnZ (h:Gr g):(af 0 g).length≤600:=by rw[qnI];exact h.2.2
theorem qjg (h:Gr g):(af 0 g).Nodup:=qmQ (quy (qy7 h))
def tn (g:List (qDU)):List (qDU):=tab g.length (srtA (gsw (af 0 g)))
theorem qjC (h:Gr g):IsTab g.length (gsw (af 0 g)) (tn g):=qm9 (qjt (qjg h))
theorem qlZ (h:Gr g):Gr (tn g):=by
 have h1:=qli (qjC h) (qs6 (qjf h)) (qjt (qjg h))
 refine qvq (qjC h) (qs6 (qjf h)) h.1 ?_
 rw[h1.length_eq,qj7];exact qnZ h
theorem qA2 (h:Gr g):(af 0 (tn g)).Perm (gsw (af 0 g)):=qli (qjC h) (qs6 (qjf h)) (qjt (qjg h))
theorem qg5 (g:List (qDU)):(tn g).length=g.length:=qh1 _ _
theorem qyQ (hF:1000≤F):qeO F g=some (if gchk g≠0 then ([],gchk g) else (tn g,0)):=by
 unfold qeO
 rw[jL hF]
 simp only[qBb]
 by_cases h:gchk g=0
 ·have hg:=jA.1 h
  have h1:=hg.1
  have h2:=qnZ hg
  rw[if_neg (by grind),if_neg (by omega),quu hF hg]
  simp only[qBb]
  show (zJ F (gsw (af 0 g))).bind _=_
  unfold zJ
  simp only[qBb]
  show (ql F (gsw (af 0 g))).bind _=_
  rw[qmt (by omega) (by rw[qj7];omega) (by rw[qj7];omega)]
  simp only[qBb]
  rw[quG (fun p hp=>by have:=qs6 (qjf hg) p ((qe2 _).mem_iff.1 hp);omega) (by grind [qlS,qj7]) (by grind [qlS,qj7]) (by omega)]
  rfl
 simp_all
theorem qys (l:List (Int×Int))(p:Int×Int):gsw (l++[p])=gsw l++[(p.2,p.1)]:=by simp[gsw]
def Ld (g:List (qDU))(u v:Nat):Prop:=((u:Int),(v:Int))∈af 0 g
theorem qfw {u v:Nat}:Ld g u v↔∃ r,g[u]?=some r∧(v:Int)∈r:=by
 unfold Ld
 rw[qjW]
 grind
theorem qlm (hg:Gr g){u v:Nat}(h:Ld g u v):u<g.length∧v<g.length:=by
 have:=qjf hg _ h
 omega
theorem qvv (hg:Gr g){u v:Nat}:Ld (tn g) u v↔Ld g v u:=by
 unfold Ld
 rw[(qA2 hg).mem_iff]
 unfold gsw
 grind
def Wk (g:List (qDU)):Nat→Nat→Nat→Prop
 | 0,s,t=>s=t
 | k+1,s,t=>∃ u,Ld g s u∧Wk g k u t
theorem qrO {g:List (qDU)}:∀ {j k s u t:Nat},Wk g j s u→Wk g k u t→Wk g (j+k) s t
 | 0,k,s,u,_,h1,h2=>by
  have h1:s=u:=h1
  simp_all
 | j+1,k,_,_,_,⟨w,h0,h1⟩,h2=>by
  rw[show j+1+k=(j+k)+1 by omega]
  exact ⟨w,h0,qrO h1 h2⟩
theorem qxf (h:Ld g s t):Wk g 1 s t:=⟨t,h,rfl⟩
theorem qyW {u:Nat}(h1:Wk g k s u)(h2:Ld g u t):Wk g (k+1) s t:=qrO h1 (qxf h2)
theorem qA3 (hg:Gr g)(hs:s<g.length):Wk g k s t→t<g.length:=by
 induction k generalizing s with
 | zero=>intro h;have h:s=t:=h;omega
 | succ k ih=>rintro ⟨u,h0,h1⟩;grind [qlm]
def gD (d:qDU)(t:Nat):Int:=d.getD t (-1)
theorem qgT (h:t<d.length):d[t]?=some (gD d t):=by grind [gD]
theorem qqW (h:d.length≤t):gD d t=-1:=by grind [gD]
theorem qqX {u:Nat}{x:Int}(h:t<d.length):gD (d.set t x) u=if u=t then x else gD d u:=by
 unfold gD
 grind
theorem qnW {e:qDU}(hl:d.length=e.length)(h:∀ t,t<d.length→gD d t=gD e t):d=e:=by
 apply qBO ;grind [qgT]
structure FarOk (g:List (qDU)) (s:Nat) (d:qDU):Prop where
 len:d.length=g.length
 src:gD d s=0
 low:∀ t,-1≤gD d t
 up:∀ u t,Ld g u t→0≤gD d u→0≤gD d t∧gD d t≤gD d u+1
 fr:∀ t,t≠s→0≤gD d t→∃ u,Ld g u t∧gD d u+1=gD d t∧0≤gD d u
theorem FarOk.wk (h:FarOk g s d):∀ {k u t:Nat},Wk g k u t→0≤gD d u→0≤gD d t∧gD d t≤gD d u+k
 | 0,u,t,hw,h0=>by have hw:u=t:=hw;simp_all
 | k+1,u,t,⟨v,h1,h2⟩,h0=>by
  have h3:=h.up u v h1 h0
  have h4:=h.wk h2 h3.1
  omega
theorem FarOk.le (h:FarOk g s d)(hw:Wk g k s t):0≤gD d t∧gD d t≤k:=by
 have:=h.wk hw (by rw[h.src];omega)
 rw[h.src] at this;omega
theorem FarOk.way (h:FarOk g s d):∀ (k t:Nat),gD d t=k→Wk g k s t
 | 0,t,hk=>by
  by_cases ht:t=s
  ·subst ht;rfl
  ·obtain ⟨u,_,h2,h3⟩:=h.fr t ht (by omega)
   omega
 | k+1,t,hk=>by
  by_cases ht:t=s
  ·subst ht;rw[h.src] at hk;omega
  ·obtain ⟨u,h1,h2,h3⟩:=h.fr t ht (by omega)
   exact qyW (h.way k u (by omega)) h1
theorem FarOk.way' (h:FarOk g s d)(h0:0≤gD d t):Wk g (gD d t).toNat s t:=h.way _ t (by omega)
theorem FarOk.uni {e:qDU}(h:FarOk g s d)(h':FarOk g s e):d=e:=by
 refine qnW (by rw[h.len,h'.len]) fun t _=>?_
 have l1:=h.low t
 have l2:=h'.low t
 by_cases h0:0≤gD d t
 ·have a:=h'.le (h.way' h0)
  have b:=h.le (h'.way' a.1)
  omega
 ·by_cases h1:0≤gD e t
  ·have b:=h.le (h'.way' h1)
   omega
  omega
theorem qfy:∀ {L M:List Nat},L.Nodup→(∀ x∈L,x∈M)→L.length≤M.length
 | [],_,_,_=>Nat.zero_le _
 | x::L,M,h,hs=>by
  have hx:=hs x (by simp)
  have h1:=qCg.1 h
  have:=qfy (L:=L) (M:=M.erase x) h1.2 fun y hy=>(List.mem_erase_of_ne (fun e:y=x=>h1.1 (e▸hy))).2 (hs y (by grind))
  grind
theorem FarOk.levels (h:FarOk g s d):∀ (k t:Nat),gD d t=k→∀ j,j≤k→∃ v,gD d v=(j:Int)
 | 0,t,hk,j,hj=>⟨t,by omega⟩
 | k+1,t,hk,j,hj=>by
  by_cases hjk:j=k+1
  ·grind
  ·by_cases ht:t=s
   ·subst ht;rw[h.src] at hk;omega
   ·obtain ⟨u,h1,h2,h3⟩:=h.fr t ht (by omega)
    exact h.levels k u (by omega) j (by omega)
theorem FarOk.lt (h:FarOk g s d)(t:Nat)(ht:0<g.length):gD d t<g.length:=by
 by_cases h0:0≤gD d t
 ·obtain ⟨k,hk⟩:=qBf h0
  have:=qfy (L:=qBx (k+1)) (M:=d.map Int.toNat) List.nodup_range fun j hj=>by
   obtain ⟨v,hv⟩:=h.levels k t hk j (by grind)
   have hvl:v<d.length:=by
    grind [qqW]
   exact qBI.2 ⟨gD d v,qBe (qgT hvl),by omega⟩
  rw[List.length_range,qBD,h.len] at this
  omega
 omega
theorem qqV {l:qDU}{p:Int→Bool}(hl:l.Pairwise (·<·)){v:Int}(h:l.find? p=some v){w:Int}(hw:w∈l)(hp:p w=true):v≤w:=by
 induction l with
 | nil=>grind
 | cons x l ih =>
  rw[List.find?_cons] at h
  cases hx:p x with
  | true =>
   rw[hx] at h
   simp only[qBl] at h
   subst h
   rcases qBi.1 hw with rfl | hw
   ·omega
   grind [qBJ]
  | false =>
   grind
def nearer (left:qDU)(u:Nat)(v:Int):Bool:=decide (gD left v.toNat+1=gD left u)
def nxt (g:List (qDU))(left:qDU)(u:Nat):Nat:=(((g.getD u []).find? (nearer left u)).getD 0).toNat
theorem qvN {left:qDU}{u:Nat}(hg:Gr g)(h:FarOk (tn g) t left)(hu:gD left u=((k+1:Nat):Int)) :
  (g.getD u []).find? (nearer left u)=some (nxt g left u:Int)∧Ld g u (nxt g left u)∧gD left (nxt g left u)=(k:Int)∧∀ w,Ld g u w→gD left w=(k:Int)→nxt g left u≤w:=by
 have hut:u≠t:=by
  rintro rfl
  rw[h.src] at hu;omega
 obtain ⟨v,h1,h2,h3⟩:=h.fr u hut (by omega)
 rw[qvv hg,qfw] at h1
 obtain ⟨r,hr,hv⟩:=h1
 have hrow:g.getD u []=r:=by simp_all
 have hrg:=hg.2.1 r (qBe hr)
 have hpv:nearer left u (v:Int)=true:=by
  unfold nearer
  simp_all
 cases hf:r.find? (nearer left u) with
 | none =>
  simp_all
 | some x =>
  have hx:=List.mem_of_find?_eq_some hf
  have hx0:=hrg.2 x hx
  have hpx:=List.find?_some hf
  obtain ⟨n,rfl⟩:=qBf hx0.1
  have hn:nxt g left u=n:=by grind [nxt]
  rw[hn]
  refine ⟨by simp_all,qfw.2 ⟨r,hr,hx⟩,?_,fun w hw1 hw2=>?_⟩
  ·unfold nearer at hpx
   simp_all
  ·obtain ⟨r',hr',hw'⟩:=qfw.1 hw1
   rw[hr] at hr'
   obtain rfl:=Option.some.inj hr'
   have:=qqV hrg.1 hf hw' (by unfold nearer;simp_all)
   omega
def wy (g:List (qDU))(left:qDU):Nat→Nat→List Nat
 | 0,u=>[u]
 | k+1,u=>u::wy g left k (nxt g left u)
theorem qxi (g:List (qDU))(left:qDU):∀ (k u:Nat),(wy g left k u).length=k+1
 | 0,_=>rfl
 | k+1,u=>by rw[wy,qBA,qxi g left k]
theorem qA9 (g:List (qDU))(left:qDU)(k u:Nat):(wy g left k u).getD 0 0=u:=by
 cases k <;> rfl
theorem qBa (g:List (qDU))(left:qDU)(k u i:Nat):(wy g left (k+1) u).getD (i+1) 0=(wy g left k (nxt g left u)).getD i 0:=rfl
theorem qxh {g:List (qDU)}{left:qDU}{t:Nat}(hg:Gr g)(h:FarOk (tn g) t left):∀ (k u i:Nat),gD left u=(k:Int)→i≤k→gD left ((wy g left k u).getD i 0)=((k-i:Nat):Int)
 | k,u,0,hu,_=>by rw[qA9,hu,Nat.sub_zero]
 | 0,_,i+1,_,hi=>by omega
 | k+1,u,i+1,hu,hi=>by
  rw[qBa,qxh hg h k _ i (qvN hg h hu).2.2.1 (by omega)]
  omega
theorem qu5 (h:FarOk g s d)(ht:gD d t=0):t=s:=by
 by_cases hts:t=s
 ·omega
 ·obtain ⟨u,_,h2,h3⟩:=h.fr t hts (by omega)
  omega
def Ud (g:List (qDU))(u v:Nat):Prop:=Ld g u v∨Ld g v u
def Uw (g:List (qDU)):Nat→Nat→Nat→Prop
 | 0,s,t=>s=t
 | k+1,s,t=>∃ u,Ud g s u∧Uw g k u t
theorem qyR {u v:Nat}(h:Ud g u v):Ud g v u:=h.symm
theorem qrM {g:List (qDU)}:∀ {j k s u t:Nat},Uw g j s u→Uw g k u t→Uw g (j+k) s t
 | 0,k,s,u,_,h1,h2=>by
  have h1:s=u:=h1
  simp_all
 | j+1,k,_,_,_,⟨w,h0,h1⟩,h2=>by
  rw[show j+1+k=(j+k)+1 by omega]
  exact ⟨w,h0,qrM h1 h2⟩
theorem qAs (h:Ud g s t):Uw g 1 s t:=⟨t,h,rfl⟩
theorem qoM {g:List (qDU)}:∀ {k s t:Nat},Uw g k s t→Uw g k t s
 | 0,s,t,h=>(show s=t from h).symm
 | _+1,_,_,⟨_,h0,h1⟩=>qrM (qoM h1) (qAs (qyR h0))
structure PartOk (g:List (qDU)) (p:qDU):Prop where
 len:p.length=g.length
 le:∀ t,t<g.length→0≤gD p t∧gD p t≤t
 arc:∀ u v,Ld g u v→gD p u=gD p v
 con:∀ t,t<g.length→∃ k,Uw g k (gD p t).toNat t
theorem PartOk.same (h:PartOk g p):∀ {k x y:Nat},Uw g k x y→gD p x=gD p y
 | 0,x,y,e=>by have e:x=y:=e;rw[e]
 | k+1,x,y,⟨u,h0,h1⟩=>by
  rw[← h.same h1]
  rcases h0 with h0 | h0
  ·exact h.arc _ _ h0
  ·exact (h.arc _ _ h0).symm
theorem PartOk.least (h:PartOk g p)(hy:y<g.length)(hw:Uw g k x y):gD p x≤y:=by
 rw[h.same hw];exact (h.le y hy).2
theorem PartOk.uni {q:qDU}(h:PartOk g p)(h':PartOk g q):p=q:=by
 have key:∀ {p q:qDU},PartOk g p→PartOk g q→∀ t,t<g.length→gD p t≤gD q t:=by
  intro p q h h' t ht
  obtain ⟨k,hk⟩:=h'.con t ht
  have a:=h'.le t ht
  have:=h.least (by omega) (qoM hk)
  omega
 refine qnW (by rw[h.len,h'.len]) fun t ht=>?_
 rw[h.len] at ht
 grind
theorem PartOk.iff (h:PartOk g p)(hs:s<g.length)(ht:t<g.length):gD p s=gD p t↔∃ k,Uw g k s t:=by
 constructor
 ·intro e
  obtain ⟨a,ha⟩:=h.con s hs
  obtain ⟨b,hb⟩:=h.con t ht
  rw[e] at ha
  exact ⟨_,qrM (qoM ha) hb⟩
 ·rintro ⟨k,hk⟩
  exact h.same hk
def startF (n s:Nat):qDU:=(qBd n (-1)).set s 0
theorem qcI {n:Nat}(hs:s<n)(t:Nat):gD (startF n s) t=if t=s then 0 else -1:=by
 grind [startF,gD]
structure Lb (g:List (qDU)) (A:List (Int×Int)) (out:qDU) (f:Nat→Nat):Prop where
 len:out.length=g.length
 par:∀ i,i<g.length→∃ m:Nat,gD out i=(m:Int)∧m≤i∧f m=f i∧(m=i→f i=i)
 le:∀ i,i<g.length→f i≤i
 idem:∀ i,i<g.length→f (f i)=f i
 arcs:∀ p∈A,f p.1.toNat=f p.2.toNat
 con:∀ i,i<g.length→∃ k,Uw g k (f i) i
theorem Lb.done {out:qDU}{f:Nat→Nat}(h:Lb g (af 0 g) out f)(hg:Gr g):PartOk g ((qBx g.length).map fun (i:Nat)=>(f i:Int)):=by
 have hgD:∀ {t},t<g.length→gD ((qBx g.length).map fun (i:Nat)=>(f i:Int)) t=(f t:Int):=fun ht=>by grind [gD]
 refine ⟨by simp,fun t ht=>?_,fun u v huv=>?_,fun t ht=>?_⟩
 ·rw[hgD ht];have:=h.le t ht;omega
 ·have hin:=qlm hg huv
  rw[hgD hin.1,hgD hin.2]
  have:=h.arcs _ huv
  simp_all
 ·rw[hgD ht,qBh];exact h.con t ht
theorem qtN {n:Nat}(h:n≤100):qcm F 1 (n:Int)=some (0,(n:Int)):=by
 have key:∀ n:Fin 101,qcm 0 1 ((n.val:Nat):Int)=some (0,((n.val:Nat):Int)):=by decide +kernel
 exact key ⟨n,by omega⟩
theorem qzf {F n:Nat}{x:Int}(hn:n≤1000):∀ (k m:Nat),n<k+m→1≤m→m≤n→kJ F k (qBd m x++qBd (n-m) 0,(m:Int))=some (qBd n x)
 | 0,m,h,_,hm=>by omega
 | k+1,m,h,h1,hm=>by
  show yx F (kJ F k) (qBd m x++qBd (n-m) 0) (m:Int)=_
  unfold yx
  have hl:(qBd m x++qBd (n-m) (0:Int)).length=n:=by simp_all
  by_cases hlt:m<n
  ·have e2:sub (qBd m x++qBd (n-m) (0:Int)) 0 (m:Int)=some (qBd m x):=by
    have:=qkp (l:=qBd m x++qBd (n-m) (0:Int)) (i:=0) (j:=m) (by omega) (by omega)
    simp_all
   have e1:sub (qBd m x++qBd (n-m) (0:Int)) (m:Int) (n:Int)=some ((qBd m x++qBd (n-m) (0:Int)).drop m):=by
    grind [qkp]
   rw[if_pos (by simp_all),hl,e1]
   simp only[qBb]
   rw[e2]
   simp only[qBb]
   have hd:((qBd m x++qBd (n-m) (0:Int)).drop m).length=n-m:=by simp
   unfold lett
   rw[hd,qBh,qBT,qb3 (by omega)]
   have e3:yH m (qBd m x++qBd (n-m) (0:Int)) (qBd m x)=qBd (m+min m (n-m)) x++qBd (n-(m+min m (n-m))) 0:=by
    unfold yH
    rw[hl,qCC (by simp),List.take_replicate,qBT,Nat.min_comm,List.drop_append,List.drop_replicate]
    grind [List.replicate_append_replicate]
   rw[e3]
   exact qzf hn k (m+min m (n-m)) (by omega) (by omega) (by omega)
  ·rw[if_neg (by simp_all)]
   unfold vL
   obtain rfl:m=n:=by omega
   simp
theorem qwe {n:Nat}{x:Int}(hF:1000≤F)(hn:n≤100):yf F [x] (n:Int)=some (qBd n x):=by
 unfold yf
 have c1:iconv .u64 (([x]:qDU).length:Int)=1:=by rfl
 have c2:iconv .u64 (n:Int)=(n:Int):=by
  have key:∀ n:Fin 101,iconv .u64 ((n.val:Nat):Int)=((n.val:Nat):Int):=by decide +kernel
  exact key ⟨n,by omega⟩
 have c3:iconv .i64 (n:Int)=(n:Int):=by
  have key:∀ n:Fin 101,iconv .i64 ((n.val:Nat):Int)=((n.val:Nat):Int):=by decide +kernel
  exact key ⟨n,by omega⟩
 rw[if_neg (by simp),c1,c2,qtN hn]
 simp only[qBb]
 rw[if_neg (by grind),c3]
 have hmk:mk 17592186044416 (0:Int) (n:Int)=some (qBd n 0):=by
  grind [mk]
 rw[hmk]
 simp only[qBb]
 unfold lett
 by_cases h0:n=0
 ·subst h0
  obtain ⟨k,rfl⟩:=qCs (show F≠0 by omega)
  rfl
 ·have e:yH 0 (qBd n (0:Int)) [x]=qBd 1 x++qBd (n-1) 0:=by
   unfold yH
   grind
  grind [qzf]
def iz (q:List Nat):qDU:=q.map fun (u:Nat)=>(u:Int)
theorem qdj (q:List Nat):(iz q).length=q.length:=by simp[iz]
theorem qvs {q:List Nat}{i:Nat}(h:i<q.length):(iz q)[i]?=some ((q.getD i 0:Nat):Int):=by
 grind [iz]
def unv (out:qDU):Nat:=out.countP fun x=>decide (x<0)
theorem qoK {out:qDU}{x:Int}(ht:t<out.length)(h0:gD out t<0)(hx:0≤x):unv (out.set t x)+1=unv out:=by
 unfold unv
 have hge:out[t]<0:=by
  have:=qgT ht
  simp_all
 grind
structure BF (g:List (qDU)) (s:Nat) (out:qDU) (q:List Nat):Prop where
 len:out.length=g.length
 src:gD out s=0
 low:∀ t,-1≤gD out t
 qin:∀ u,u∈q→u<g.length∧0≤gD out u
 qpw:q.Pairwise fun a b=>gD out a≤gD out b
 top:∀ u,u∈q→∀ t,gD out t≤gD out u+1
 don:∀ u,0≤gD out u→u∉q→∀ t,Ld g u t→0≤gD out t∧gD out t≤gD out u+1
 fr:∀ t,t≠s→0≤gD out t→∃ u,Ld g u t∧gD out u+1=gD out t∧0≤gD out u
 hi:∀ t,gD out t+1+(unv out:Int)≤(g.length:Int)
theorem BF.done {out:qDU}(h:BF g s out []):FarOk g s out :=
 ⟨h.len,h.src,h.low,fun u t hl h0=>h.don u h0 (by simp) t hl,h.fr⟩
theorem BF.pop {out:qDU}{q:List Nat}(h:BF g s out (a::q))(ha:∀ t,Ld g a t→0≤gD out t∧gD out t≤gD out a+1):BF g s out q where
 len:=h.len
 src:=h.src
 low:=h.low
 qin:=fun u hu=>h.qin u (by grind)
 qpw:=(qBJ.1 h.qpw).2
 top:=fun u hu=>h.top u (by grind)
 don:=fun u h0 hu=>by
  by_cases e:u=a
  ·simp_all
  ·exact h.don u h0 (by simp_all)
 fr:=h.fr
 hi:=h.hi
theorem BF.push {out:qDU}{q:List Nat}(hg:Gr g)(h:BF g s out (a::q))(ht:gD out t<0)(hl:Ld g a t):BF g s (out.set t (gD out a+1)) (a::q++[t]):=by
 have htl:t<out.length:=by rw[h.len];exact (qlm hg hl).2
 have ha0:=(h.qin a (by simp)).2
 have hv:∀ x,gD (out.set t (gD out a+1)) x=if x=t then gD out a+1 else gD out x:=fun x=>qqX htl
 have hne:∀ x,0≤gD out x→x≠t:=fun x hx e=>by grind
 have hold:∀ x,0≤gD out x→gD (out.set t (gD out a+1)) x=gD out x:=fun x hx=>by simp_all
 have hat:gD (out.set t (gD out a+1)) t=gD out a+1:=by simp_all
 have hmin:∀ u,u∈a::q→gD out a≤gD out u:=fun u hu=>by
  rcases qBi.1 hu with rfl | hu
  ·omega
  ·exact (qBJ.1 h.qpw).1 u hu
 refine ⟨by rw[List.length_set];exact h.len,by rw[hold s (by rw[h.src];omega)];exact h.src,fun x=>?_,fun u hu=>?_,?_,fun u hu x=>?_,fun u h0 hu x hx=>?_,fun x hxs h0=>?_,fun x=>?_⟩
 ·rw[hv];have:=h.low x;omega
 ·rcases qBg.1 hu with hu | hu
  ·rw[hold u (h.qin u hu).2];exact h.qin u hu
  ·rw[qBr] at hu
   rw[hu,hat]
   exact ⟨(qlm hg hl).2,by omega⟩
 ·rw[qCp]
  refine ⟨h.qpw.imp_of_mem fun {x y} hx hy hxy=>by grind,by simp,fun x hx y hy=>?_⟩
  rw[qBr] at hy
  rw[hy,hat,hold x (h.qin x hx).2]
  exact h.top a (by simp) x
 ·rcases qBg.1 hu with hu | hu
  ·rw[hold u (h.qin u hu).2,hv]
   have:=hmin u hu
   split
   ·omega
   ·exact h.top u hu x
  ·rw[qBr] at hu
   rw[hu,hat,hv]
   have:=h.top a (by simp) x
   omega
 ·have hut:u≠t:=fun e=>hu (by grind)
  have hu':u∉a::q:=fun hm=>hu (qBg.2 (.inl hm))
  rw[hv,if_neg hut] at h0
  have:=h.don u h0 hu' x hx
  simp_all
 ·by_cases e:x=t
  ·grind
  ·rw[hv,if_neg e] at h0 ⊢
   obtain ⟨u,h1,h2,h3⟩:=h.fr x hxs h0
   grind
 ·have:=qoK (x:=gD out a+1) htl ht (by omega)
  have h1:=h.hi x
  have h2:=h.hi a
  grind
theorem qqU {F:Nat}{g:List (qDU)}{s a:Nat}{r:qDU}{rec48:(qDU×qDU)→Option (qDU)}(hg:Gr g)(hr:g[a]?=some r):∀ (k j:Nat) (out:qDU) (q:List Nat),r.length<k+j→j≤r.length→BF g s out (a::q)→q.length+unv out≤1000 →
  (∀ t:Nat,(t:Int)∈r.take j→0≤gD out t∧gD out t≤gD out a+1) →
  ∃ out' q',vS F rec48 (a:Int) r k (out,iz (a::q),(j:Int))=qdg F rec48 out' (iz (a::q'))∧BF g s out' (a::q')∧(∀ t:Nat,(t:Int)∈r→0≤gD out' t∧gD out' t≤gD out' a+1)∧q'.length+unv out'=q.length+unv out
 | 0,j,_,_,h,hj,_,_,_=>by omega
 | k+1,j,out,q,h,hj,hb,hm,hp=>by
  have hrl:=qdG hg (qBe hr)
  by_cases hlt:j<r.length
  ·have hx0:=(hg.2.1 r (qBe hr)).2 r[j] (qBu hlt)
   obtain ⟨t,ht⟩:=qBf hx0.1
   have htg:t<g.length:=by omega
   have htl:t<out.length:=by rw[hb.len];omega
   have hal:a<out.length:=by rw[hb.len];grind
   have hld:Ld g a t:=qfw.2 ⟨r,hr,by grind⟩
   have ha0:=(hb.qin a (by simp)).2
   have hsn:r.take (j+1)=r.take j++[(t:Int)]:=by rw[qbX hlt,ht]
   have hstep:vS F rec48 (a:Int) r (k+1) (out,iz (a::q),(j:Int))=qbG F rec48 (a:Int) r (vS F rec48 (a:Int) r k) out (iz (a::q)) (j:Int):=rfl
   rw[hstep]
   unfold qbG
   rw[if_pos (by simp_all),qo,qBc hlt,ht]
   simp only[qBb]
   rw[qo,qgT htl]
   simp only[qBb]
   by_cases hneg:gD out t<0
   ·rw[if_pos (by simp_all),qo,qgT hal]
    simp only[qBb]
    have hglen:g.length≤100:=hg.1
    have htop:=hb.top a (by simp) a
    have hbig:=hb.hi a
    rw[zU (by grind [qdj])]
    unfold lett
    simp only[qBb]
    unfold qbH
    rw[qs (by omega),zj (by omega) (by omega),qBh]
    have hb':=hb.push hg hneg hld
    have hz:iz (a::q)++[(t:Int)]=iz (a::(q++[t])):=by simp[iz]
    have hu:=qoK (x:=gD out a+1) htl hneg (by omega)
    have hat:gD (out.set t (gD out a+1)) a=gD out a:=by grind [qqX]
    rw[hz]
    obtain ⟨out',q',e1,e2,e3,e4⟩:=qqU (rec48:=rec48) hg hr k (j+1) (out.set t (gD out a+1)) (q++[t]) (by omega) (by omega) hb' (by grind) (fun x hx=>by
     grind [qqX])
    refine ⟨out',q',e1,e2,e3,?_⟩
    grind
   ·rw[if_neg (by simp_all)]
    unfold qbH
    rw[qs (by omega)]
    exact qqU hg hr k (j+1) out q (by omega) (by omega) hb hm (fun x hx=>by
     rw[hsn] at hx
     rcases qBg.1 hx with hx | hx
     ·simp_all
     ·simp only[qBr] at hx
      obtain rfl:x=t:=by omega
      exact ⟨by omega,hb.top a (by simp) x⟩)
  ·have hstep:vS F rec48 (a:Int) r (k+1) (out,iz (a::q),(j:Int))=qbG F rec48 (a:Int) r (vS F rec48 (a:Int) r k) out (iz (a::q)) (j:Int):=rfl
   refine ⟨out,q,?_,hb,fun t ht=>hp t (by grind),rfl⟩
   grind [qbG]
theorem qsh {F:Nat}{g:List (qDU)}{s:Nat}(hF:1000≤F)(hg:Gr g):∀ (k:Nat) (out:qDU) (q:List Nat),q.length+unv out<k→q.length+unv out≤1000→BF g s out q→∃ d,vR F g k (out,iz q)=some d∧FarOk g s d
 | 0,_,_,h,_,_=>by omega
 | k+1,out,q,h,hm,hb=>by
  have hstep:vR F g (k+1) (out,iz q)=qfv F g (vR F g k) out (iz q):=rfl
  rw[hstep]
  unfold qfv
  cases q with
  | nil =>
   rw[if_neg (by simp[iz])]
   exact ⟨out,rfl,hb.done⟩
  | cons a q =>
   have hal:=(hb.qin a (by simp)).1
   have hra:g[a]?=some g[a]:=qBc hal
   have hrl:=qdG hg (qBu hal)
   rw[if_pos (by simp[iz])]
   have e0:idx (iz (a::q)) 0=some (a:Int):=rfl
   rw[e0]
   simp only[qBb]
   rw[qo,hra]
   simp only[qBb]
   obtain ⟨out',q',e1,e2,e3,e4⟩:=qqU (F:=F) (rec48:=vR F g k) hg hra F 0 out q (by omega) (by omega) hb (by grind) (fun t ht=>by grind)
   rw[show ((0:Nat):Int)=0 from rfl] at e1
   rw[e1]
   unfold qdg
   have es:sub (iz (a::q')) 1 ((iz (a::q')).length:Int)=some (iz q'):=by
    have:=qkp (l:=iz (a::q')) (i:=1) (j:=(iz (a::q')).length) (by simp[iz]) (qBo _)
    rw[show ((1:Nat):Int)=1 from rfl] at this
    rw[this,qCk];rfl
   rw[es]
   simp only[qBb]
   have hpop:=e2.pop (fun t ht=>by
    obtain ⟨r,hr,hm⟩:=qfw.1 ht
    simp_all)
   simp only[qBA] at h hm
   exact qsh hF hg k out' q' (by omega) (by omega) hpop
theorem qyS (n:Nat):unv (qBd n (-1))=n:=by
 grind [unv,List.countP_replicate]
theorem qu4 (hF:1000≤F)(hg:Gr g)(hs:s<g.length):∃ d,qcz F g (s:Int)=some d∧FarOk g s d:=by
 have hgl:=hg.1
 have hsr:s<(qBd g.length (-1:Int)).length:=by simpa using hs
 unfold qcz
 rw[qwe hF hgl]
 simp only[qBb]
 rw[qo,qBc hsr]
 simp only[qBb]
 unfold lett
 rw[qBh]
 have hst:(qBd g.length (-1:Int)).set s 0=startF g.length s:=rfl
 have hu:unv (startF g.length s)+1=g.length:=by
  have h9:gD (qBd g.length (-1:Int)) s<0:=by
   unfold gD
   rw[List.getD_eq_getElem?_getD,List.getElem?_replicate]
   split <;> simp
  have:=qoK (out:=qBd g.length (-1)) (x:=0) hsr h9 (Int.le_refl 0)
  rw[qyS] at this
  exact this
 rw[hst]
 have hone:([(s:Int)]:qDU)=iz [s]:=rfl
 rw[hone]
 refine qsh hF hg F _ [s] (by simp;omega) (by simp;omega) ⟨by simp[startF],by rw[qcI hs,if_pos rfl],fun t=>by rw[qcI hs];split <;> omega,fun u hu=>?_,by simp,fun u hu t=>?_,fun u h0 hu t ht=>?_,fun t hts h0=>?_,fun t=>?_⟩
 ·simp only[qBr] at hu
  subst hu
  exact ⟨hs,by rw[qcI hs,if_pos rfl];exact Int.le_refl 0⟩
 ·simp only[qBr] at hu
  subst hu
  rw[qcI hs,qcI hs,if_pos rfl]
  split <;> omega
 ·rw[qcI hs] at h0
  split at h0
  ·rename_i e;exact absurd (by simp[e]) hu
  ·omega
 ·rw[qcI hs,if_neg hts] at h0;omega
 ·rw[qcI hs]
  split <;> omega
def farL (g:List (qDU))(s:Nat):qDU:=(qcz 1000 g (s:Int)).getD []
theorem qnS (hg:Gr g)(hs:s<g.length):FarOk g s (farL g s):=by
 obtain ⟨d,h1,h2⟩:=qu4 (F:=1000) (qBo _) hg hs
 grind [farL]
theorem qzM (hF:1000≤F)(hg:Gr g)(hs:s<g.length):qcz F g (s:Int)=some (farL g s):=by
 obtain ⟨d,h1,h2⟩:=qu4 hF hg hs
 rw[h1,h2.uni (qnS hg hs)]
def wout (g:List (qDU))(ns:qDU):Bool:=ns.any fun n=>decide (n<0) || decide ((g.length:Int)≤n)
def wchk (g:List (qDU))(ns:qDU):Int:=if gchk g≠0 then gchk g else if wout g ns then 3 else 0
theorem qqr {F:Nat}{g:List (qDU)}{l:qDU}(hm:l.length≤1000000):∀ (k i:Nat),l.length<k+i→i≤l.length→∃ z,ke F l g k (i:Int)=some z∧decide (0≤z)=wout g (l.drop i)
 | 0,_,_,_=>by omega
 | k+1,i,h,hi=>by
  show ∃ z,kd F l g (ke F l g k) (i:Int)=some z∧_
  unfold kd
  by_cases hlt:i<l.length
  ·rw[if_pos (by simp_all),qo,qBc hlt,qBj hlt]
   simp only[qBb]
   unfold qfu
   simp only[qBb]
   unfold wout
   rw[List.any_cons]
   by_cases hc:(decide (l[i]<0) || decide ((g.length:Int)≤l[i]))=true
   ·simp_all
   ·rw[if_neg hc,qs (by omega)]
    rw[Bool.not_eq_true] at hc
    rw[hc,Bool.false_or]
    exact qqr hm k (i+1) (by omega) (by omega)
  ·rw[if_neg (by simp_all),qBm (by omega)]
   exact ⟨-1,rfl,rfl⟩
theorem quv {ns:qDU}(hF:1000≤F)(hn:ns.length≤100):qdf F g ns=some (wchk g ns):=by
 unfold qdf wchk
 rw[jL hF]
 simp only[qBb]
 by_cases h:gchk g=0
 ·rw[if_neg (by grind),if_neg (by omega)]
  unfold ka kE
  obtain ⟨z,e1,e2⟩:=qqr (F:=F) (g:=g) (l:=ns) (by omega) F 0 (by omega) (by omega)
  grind
 simp_all
theorem wchk2 {s t:Int}(h:wchk g [s,t]=0):Gr g∧(∃ n:Nat,s=(n:Int)∧n<g.length)∧∃ n:Nat,t=(n:Int)∧n<g.length:=by
 unfold wchk at h
 by_cases h1:gchk g=0
 ·rw[if_neg (by omega)] at h
  by_cases h2:wout g [s,t]=true
  ·simp_all
  ·simp[wout] at h2
   grind [qBf,jA]
 omega
theorem qne {F:Nat}{r left:qDU}{u v:Nat}(hm:r.length≤1000000)(hr:∀ x∈r,0≤x∧x<left.length)(hu:u<left.length)(hlo:∀ t,-1≤gD left t∧gD left t≤1000000):∀ (k i:Nat),r.length<k+i→i≤r.length→(r.drop i).find? (nearer left u)=some (v:Int) →
  ∃ z:Nat,kv F r left (u:Int) k (i:Int)=some (z:Int)∧r[z]?=some (v:Int)
 | 0,_,_,_,_=>by omega
 | k+1,i,h,hi,hf=>by
  show ∃ z:Nat,ku F r left (u:Int) (kv F r left (u:Int) k) (i:Int)=some (z:Int)∧_
  unfold ku
  by_cases hlt:i<r.length
  ·have hx:=hr r[i] (qBu hlt)
   obtain ⟨x,hx1⟩:=qBf hx.1
   have hxl:x<left.length:=by omega
   have hlu:=hlo u
   rw[if_pos (by simp_all),qo,qBc hlt]
   simp only[qBb]
   unfold qgP
   rw[hx1,qo,qgT hxl]
   simp only[qBb]
   rw[qo,qgT hu]
   simp only[qBb]
   rw[zV (by omega) (by omega)]
   rw[qBj hlt,List.find?_cons,hx1] at hf
   have hnear:nearer left u (x:Int)=(gD left x == gD left u-1):=by
    unfold nearer
    grind
   rw[hnear] at hf
   cases hc:(gD left x == gD left u-1) with
   | true =>
    grind
   | false =>
    rw[hc] at hf
    simp only[qBq,if_false]
    rw[qs (by omega)]
    exact qne hm hr hu hlo k (i+1) (by omega) (by omega) hf
  grind
theorem qy1 (hg:Gr g)(h:FarOk g s d)(t:Nat):-1≤gD d t∧gD d t≤1000000:=by
 have h1:=hg.1
 refine ⟨h.low t,?_⟩
 by_cases h0:0<g.length
 ·have:=h.lt t h0;omega
 ·rw[qqW (by rw[h.len];omega)];omega
theorem qzn {F:Nat}{g:List (qDU)}{left:qDU}{t:Nat}(hF:1000≤F)(hg:Gr g)(h:FarOk (tn g) t left):∀ (m k u:Nat) (acc:qDU),m<k→gD left u=(m:Int)→acc.length+m≤1000 →
  qd3 F g (t:Int) left k (acc,(u:Int))=some (acc++iz ((wy g left m u).drop 1),0)
 | 0,k,u,acc,hk,hu,ha=>by
  obtain ⟨k,rfl⟩:=qCs (show k≠0 by omega)
  show qcb F g (t:Int) left (qd3 F g (t:Int) left k) acc (u:Int)=_
  unfold qcb
  have hut:=qu5 h hu
  rw[if_neg (by simp[hut])]
  unfold qgd
  rw[wy]
  simp[iz]
 | m+1,k,u,acc,hk,hu,ha=>by
  obtain ⟨k,rfl⟩:=qCs (show k≠0 by omega)
  show qcb F g (t:Int) left (qd3 F g (t:Int) left k) acc (u:Int)=_
  unfold qcb
  have hut:u≠t:=by
   rintro rfl
   rw[h.src] at hu;omega
  obtain ⟨n1,n2,n3,n4⟩:=qvN hg h hu
  have hin:=qlm hg n2
  have hrow:g.getD u []=g[u]:=by simp[qDH,qBc hin.1]
  have hrg:=hg.2.1 g[u] (qBu hin.1)
  have hrl:=qdG hg (qBu hin.1)
  have hll:left.length=g.length:=by rw[h.len,qg5]
  rw[hrow] at n1
  rw[if_pos (by simp;omega),qo,qBc hin.1]
  simp only[qBb]
  unfold kQ
  obtain ⟨z,e1,e2⟩:=qne (F:=F) (r:=g[u]) (left:=left) (u:=u) (v:=nxt g left u) (by omega) (by rw[hll];exact hrg.2) (by rw[hll];exact hin.1) (qy1 (qlZ hg) h) F 0 (by omega) (by omega) (by rw[qBL];exact n1)
  rw[show ((0:Nat):Int)=0 from rfl] at e1
  rw[e1]
  simp only[qBb]
  rw[qo,e2]
  simp only[qBb]
  rw[zU (by simp;omega)]
  simp only[qBb]
  rw[qzn hF hg h m k (nxt g left u) (acc++[(nxt g left u:Int)]) (by omega) n3 (by simp;omega),wy]
  have:∀ (m:Nat),(nxt g left u:Int)::iz ((wy g left m (nxt g left u)).drop 1)=iz (wy g left m (nxt g left u)):=fun m=>by cases m <;> rfl
  rw[qBn,List.singleton_append,this]
  rfl
def wayM (g:List (qDU))(s t:Int):qDU×Int :=
 if wchk g [s,t]≠0 then ([],wchk g [s,t]) else if gD (farL (tn g) t.toNat) s.toNat<0 then ([],5) else (iz (wy g (farL (tn g) t.toNat) (gD (farL (tn g) t.toNat) s.toNat).toNat s.toNat),0)
theorem qzu {s t:Int}(hF:2000≤F):qgO F g s t=some (wayM g s t):=by
 unfold qgO wayM
 rw[quv (by omega) (by simp)]
 simp only[qBb]
 by_cases h:wchk g [s,t]=0
 ·obtain ⟨hg,⟨n,rfl,hn⟩,m,rfl,hm⟩:=wchk2 h
  rw[if_neg (by grind),if_neg (by omega),qyQ (by omega),if_neg (by simp[jA.2 hg])]
  simp only[qBb]
  have hml:m<(tn g).length:=by rw[qg5];omega
  have hf:=qnS (qlZ hg) hml
  have hnl:n<(farL (tn g) m).length:=by rw[hf.len,qg5];omega
  rw[qzM (by omega) (qlZ hg) hml]
  simp only[qBb]
  rw[qo,qgT hnl,qBh,qBh]
  simp only[qBb]
  have hb:=qy1 (qlZ hg) hf n
  have hlt:=hf.lt n (by omega)
  rw[qg5] at hlt
  have h100:=hg.1
  by_cases hneg:gD (farL (tn g) m) n<0
  ·simp_all
  ·rw[if_neg (by simp_all),if_neg hneg]
   obtain ⟨k,hk⟩:=qBf (show 0≤gD (farL (tn g) m) n by omega)
   rw[qzn (by omega) hg hf k F n [(n:Int)] (by omega) hk (by grind),hk,qBh]
   have:∀ (k:Nat),(n:Int)::iz ((wy g (farL (tn g) m) k n).drop 1)=iz (wy g (farL (tn g) m) k n):=fun k=>by cases k <;> rfl
   simp_all
 simp_all
def lens (g:List (qDU)):qDU:=g.map fun r=>(r.length:Int)
def deg (n:Nat)(l:List (Int×Int)):qDU:=lens (tab n l)
theorem qsa {n i:Nat}{l:List (Int×Int)}(h:i<n):(deg n l)[i]?=some ((rowOf l i).length:Int):=by
 grind [deg,lens,qjx]
theorem qu1 {n:Nat}{l:List (Int×Int)}{b:Int}:deg n (l++[((a:Int),b)])=(deg n l).set a (((rowOf l a).length+1:Nat):Int):=by
 grind [deg,lens,qjy,List.map_set]
theorem qu0 {n:Nat}{l l':List (Int×Int)}(h:l.Perm l'):deg n l=deg n l':=by
 unfold deg lens tab
 rw[qCA,qCA]
 refine qCL fun i _=>?_
 show ((rowOf l i).length:Int)=((rowOf l' i).length:Int)
 unfold rowOf
 rw[qBD,qBD,(h.filter _).length_eq]
theorem qtB {n:Nat}{l:List (Int×Int)}(h:IsTab n l T)(hn:l.Nodup):deg n l=lens T:=by
 rw[qlj h (qm9 hn) fun p=>Iff.rfl,← qu0 (qe2 l)]
 rfl
theorem qi9 {F n:Nat}{yy:(qDU×qDU)→(Int×Int)→Option ((qDU×qDU) ⊕ Empty)}(hy:∀ s p,yy s p=vJ F s.1 s.2 p.1 p.2):∀ (A acc:List (Int×Int)),InR n A→acc.length+A.length≤1000000 →
  vx yy A (deg n (gsw acc),deg n acc)=some (.inl (deg n (gsw (acc++A)),deg n (acc++A)))
 | [],acc,_,_=>by rw[qBR];rfl
 | p::A,acc,h,hm=>by
  rw[qBA] at hm
  obtain ⟨h1,h2,h3,h4⟩:=h p (by simp)
  have hrec:=qi9 hy A (acc++[p]) (fun q hq=>h q (by grind)) (by grind)
  rw[qBn] at hrec
  show (yy _ p).bind _=_
  rw[hy]
  unfold vJ
  obtain ⟨a,ha⟩:=qBf h1
  obtain ⟨b,hb⟩:=qBf h3
  have e:p=((a:Int),(b:Int)):=Prod.ext ha hb
  have hl1:=qgA acc (a:Int)
  have hl2:=qgA (gsw acc) (b:Int)
  rw[qj7] at hl2
  subst e
  simp only at *
  rw[qo,qsa (by omega)]
  simp only[qBb,lett]
  rw[qo,qsa (by omega)]
  simp only[qBb]
  grind [qs,qu1,qys]
theorem qn9 (n:Nat):deg n []=qBd n 0:=by
 grind [deg,lens,qtc,List.map_replicate]
def degM (g:List (qDU)):qDU×qDU×Int:=if gchk g≠0 then ([],[],gchk g) else (lens g,lens (tn g),0)
theorem qqS (hF:1000≤F):qcl F g=some (degM g):=by
 unfold qcl degM
 rw[jL hF]
 simp only[qBb]
 by_cases h:gchk g=0
 ·have hg:=jA.1 h
  have h1:=hg.1
  have h2:=qnZ hg
  rw[if_neg (by grind),if_neg (by omega)]
  have hmk:mk 17592186044416 (0:Int) (g.length:Int)=some (deg g.length []):=by
   grind [mk,qn9]
  rw[hmk]
  simp only[qBb]
  unfold qcu qao
  simp only[qBb]
  rw[qqH (by omega) (by omega) (fun l hl=>by grind [qdG])]
  have:=qi9 (F:=F) (n:=g.length) (yy:=fun x x_1=>vJ F x.1 x.2 x_1.1 x_1.2) (fun _ _=>rfl) (af 0 g) [] (qjf hg) (by grind)
  rw[qBy] at this
  refine (congrArg (fun z=>Option.bind z _) this).trans ?_
  grind [qtB,qux,qy7,qjg,qjC,qjt]
 simp_all
def By (s:qDU):Prop:=∀ x∈s,0≤x∧x<256
def cut8 (c:UInt8):List UInt8→List (List UInt8)
 | []=>[[]]
 | x::t=>if x=c then []::cut8 c t else match cut8 c t with | []=>[[x]] | h::r=>(x::h)::r
theorem qq1 (t:List UInt8)(c:UInt8):-1≤Lib.index t [c]:=Lib.index_ge t [c]
theorem qkj (x:UInt8)(t:List UInt8)(c:UInt8):Lib.index (x::t) [c]=if x=c then 0 else if Lib.index t [c]=-1 then -1 else Lib.index t [c]+1:=by
 rw[show Lib.index (x::t) [c]=if [c].isPrefixOf (x::t) then 0 else if Lib.index t [c] == -1 then -1 else Lib.index t [c]+1 from rfl]
 grind
theorem qlP (c:UInt8)(k:Nat)(s:List UInt8):Lib.splitK [c] 0 (k+1) s=if Lib.index s [c] == -1 then [s] else s.take ((Lib.index s [c]).toNat+0)::Lib.splitK [c] 0 k (s.drop ((Lib.index s [c]).toNat+1)):=rfl
theorem qlO (c:UInt8):∀ (L:List UInt8),Lib.splitK [c] 0 (L.count c) L=cut8 c L
 | []=>rfl
 | x::t=>by
  have ih:=qlO c t
  unfold cut8
  by_cases h:x=c
  ·subst h
   rw[List.count_cons_self,if_pos rfl,← ih]
   rw[qlP,qkj,if_pos rfl]
   simp
  ·rw[if_neg h,← ih,List.count_cons_of_ne (fun e=>h e)]
   cases hk:t.count c with
   | zero=>rfl
   | succ k =>
    rw[qlP,qlP,qkj,if_neg h]
    have hge:=qq1 t c
    grind
def cutI (c:Int):qDU→List (qDU)
 | []=>[[]]
 | x::t=>if x=c then []::cutI c t else match cutI c t with | []=>[[x]] | h::r=>(x::h)::r
theorem qmG (c x:Int)(t:qDU):cutI c (x::t)=if x=c then []::cutI c t else match cutI c t with | []=>[[x]] | h::r=>(x::h)::r:=rfl
def u8 (n:Int):UInt8:=UInt8.ofNat n.toNat
theorem qAq {a b:Int}(ha:0≤a∧a<256)(hb:0≤b∧b<256):u8 a=u8 b↔a=b:=by
 constructor
 ·intro h
  have h1:b8 a=b8 b:=by
   show ((u8 a).toNat:Int)=((u8 b).toNat:Int)
   rw[h]
  grind [quB]
 simp_all
def toI (l:List UInt8):qDU:=l.map fun u=>(u.toNat:Int)
theorem quW {c:Int}(hc:0≤c∧c<256):∀ (s:qDU),By s→(cut8 (u8 c) (s.map u8)).map toI=cutI c s
 | [],_=>rfl
 | x::t,h=>by
  have hx:=h x (qBp ..)
  have ih:=quW hc t fun y hy=>h y (qBt _ hy)
  have hb:((u8 x).toNat:Int)=x:=quB hx.1 hx.2
  rw[qBU]
  unfold cut8 cutI
  by_cases e:x=c
  ·subst e
   rw[if_pos rfl,if_pos rfl,qBU,ih]
   rfl
  ·rw[if_neg (fun e2=>e ((qAq hx hc).1 e2)),if_neg e,← ih]
   cases cut8 (u8 c) (t.map u8) with
   | nil=>grind [toI]
   | cons a r =>
    show toI (u8 x::a)::r.map toI=(x::toI a)::r.map toI
    rw[show toI (u8 x::a)=((u8 x).toNat:Int)::toI a from rfl,hb]
theorem qt3 {c:Int}{s:qDU}(hc:0≤c∧c<256)(hs:By s)(hl:s.length<4294967281):splitM s [c]=some (cutI c s):=by
 unfold splitM
 simp only[hl,if_true]
 congr 1
 have h1:=Lib.splitB_data (bstr [c]) 0 (Lib.countB (bstr s) (bstr [c])) (bstr s)
 have h2:Lib.countB (bstr s) (bstr [c])=(s.map u8).count (u8 c):=by
  show Lib.count (bstr s).data.toList (bstr [c]).data.toList=_
  rw[qaf,qaf]
  exact Lib.count_one _ _
 rw[h2] at h1 ⊢
 rw[qaf,qaf] at h1
 have h3:Lib.splitK [u8 c] 0 ((s.map u8).count (u8 c)) (s.map u8)=cut8 (u8 c) (s.map u8):=qlO _ _
 have h4:([c].map fun n=>UInt8.ofNat n.toNat)=[u8 c]:=rfl
 have h5:(s.map fun n=>UInt8.ofNat n.toNat)=s.map u8:=rfl
 rw[h4,h5,h3] at h1
 rw[← quW hc s hs,← h1,qCA]
 rfl
def pre (w:qDU):List (qDU)→List (qDU)
 | []=>[w]
 | h::r=>(w++h)::r
def dcI (n:Int):qDU:=if n<10 then [48+n] else if n<100 then [48+n/10,48+n%10] else [48+n/100,48+n/10%10,48+n%10]
theorem dg1 {u:Nat}(h:u<10):Lib.decDigits u=[UInt8.ofNat (48+u)]:=by
 unfold Lib.decDigits
 grind
theorem dg2 {u:Nat}(h:¬ u<10):Lib.decDigits u=Lib.decDigits (u/10)++[UInt8.ofNat (48+u%10)]:=by
 rw[Lib.decDigits,dif_neg h]
theorem qqm {u:Nat}(h:u<10):toI [UInt8.ofNat (48+u)]=[48+(u:Int)]:=by
 have:((48+u)%256:Nat)=48+u:=by omega
 simp[toI,this]
theorem qtf (a b:List UInt8):toI (a++b)=toI a++toI b:=by simp[toI]
theorem qAK {n:Int}(h:0≤n∧n<1000):toI (Lib.decDigits n.toNat)=dcI n:=by
 unfold dcI
 by_cases h1:n<10
 ·grind [dg1,qqm]
 ·rw[if_neg h1,dg2 (by omega),qtf,qqm (by omega)]
  by_cases h2:n<100
  ·rw[if_pos h2,dg1 (by omega),qqm (by omega)]
   grind
  ·rw[if_neg h2,dg2 (by omega),qtf,qqm (by omega),dg1 (by omega),qqm (by omega)]
   grind
theorem quo10 {n:Int}(h:0≤n∧n<1000):iquo .i64 n 10=n/10:=by
 have h1:n.tdiv 10=n/10:=Int.tdiv_eq_ediv_of_nonneg h.1
 unfold iquo
 rw[h1]
 exact yk (by omega) (by omega)
theorem rem10 {n:Int}(h:0≤n∧n<1000):irem n 10=n%10:=by
 unfold irem
 exact Int.tmod_eq_emod_of_nonneg h.1
theorem qqR {n:Int}{acc:qDU}{rec:(Int×qDU)→Option (qDU)}(h:0≤n∧n<1000)(ha:acc.length≤10):vF F rec n acc=if n/10=0 then some ((48+n%10)::acc) else rec (n/10,(48+n%10)::acc):=by
 unfold vF
 rw[quo10 h,rem10 h,zj (by omega) (by omega),show iconv .u8 (48+n%10)=48+n%10 from qti (by omega) (by omega),zU (by simp;omega)]
 simp only[qBb,qB2,qBy,beq_iff_eq]
theorem qi8 {n:Int}(hF:10≤F)(h:0≤n∧n<1000):vy F n=some (dcI n):=by
 unfold vy
 obtain ⟨k,rfl⟩:∃ k,F=k+3:=⟨F-3,by omega⟩
 show vF (k+3) (jT (k+3) (k+2)) n []=_
 rw[qqR h (by simp)]
 unfold dcI
 by_cases h1:n<10
 ·rw[if_pos (by omega),if_pos h1]
  congr 2;omega
 ·rw[if_neg (by omega),if_neg h1]
  show vF (k+3) (jT (k+3) (k+1)) (n/10) _=_
  rw[qqR (by omega) (by simp)]
  by_cases h2:n<100
  ·rw[if_pos (by omega),if_pos h2]
   congr 2;omega
  ·rw[if_neg (by omega),if_neg h2]
   show vF (k+3) (jT (k+3) k) (n/10/10) _=_
   rw[qqR (by omega) (by simp),if_pos (by omega)]
   congr 2;omega
theorem qzI:∀ n:Fin 1000,atoiE (dcI (n.val:Int))=some ((n.val:Int),true):=by decide +kernel
theorem qxG {n:Int}(h:0≤n∧n<1000):atoiE (dcI n)=some (n,true):=by
 obtain ⟨k,rfl⟩:=qBf h.1
 exact qzI ⟨k,by omega⟩
theorem qnR {n:Int}(h:0≤n∧n<1000):itoaC n=some (dcI n):=by
 unfold itoaC
 rw[if_pos (by omega),← qAK h]
 unfold Lib.itoa
 rw[if_neg (by omega)]
 rfl
theorem qhw {n:Int}(_h:0≤n∧n<1000):0<(dcI n).length∧(dcI n).length≤3:=by
 grind [dcI]
theorem quZ {n x:Int}(h:0≤n∧n<1000)(hx:x∈dcI n):48≤x∧x≤57:=by
 unfold dcI at hx
 split at hx
 ·simp at hx;omega
 ·split at hx <;> simp at hx <;> omega
theorem qAJ {n:Int}(h:0≤n∧n<1000):By (dcI n):=fun x hx=>by have:=quZ h hx;omega
theorem qAI {n:Int}(h:0≤n∧n<1000):(32:Int)∉dcI n:=fun hx=>by have:=quZ h hx;omega
theorem qtA {w s:qDU}(h:(32:Int)∉w):cutI 32 (w++32::s)=w::cutI 32 s:=by
 induction w with
 | nil=>rfl
 | cons x t ih =>
  simp only[qBi,not_or] at h
  rw[qB2,qmG,if_neg (fun e=>h.1 e.symm),ih h.2]
theorem quX {w:qDU}(h:(32:Int)∉w):cutI 32 w=[w]:=by
 induction w with
 | nil=>rfl
 | cons x t ih =>
  simp only[qBi,not_or] at h
  rw[qmG,if_neg (fun e=>h.1 e.symm),ih h.2]
theorem qkC (x:qDU):(bstr x == bstr x)=true:=by rw[← qqI];simp
theorem qur {N:Int}{ws:List (qDU)}{ns:qDU}{i:Nat}{n:Int}(hn:0≤n∧n<1000)(hw:ws[i]?=some (dcI n))(hi:i≤10)(hl:ns.length≤10) :
  zN F N ws (k+1) ((i:Int),ns)=zN F N ws k (((i+1:Nat):Int),ns++[n]):=by
 show yJ F N ws (zN F N ws k) (i:Int) ns=_
 unfold yJ
 have hlt:=(qBv.1 hw).1
 rw[if_pos (decide_eq_true (by omega)),qo,hw]
 simp only[qBb]
 rw[qxG hn]
 simp only[qBb]
 have h3:=qhw hn
 rw[if_neg (by simp;omega),qnR hn]
 simp only[qBb]
 rw[qkC]
 unfold vV
 rw[if_neg (by simp),zU (by simp;omega)]
 simp only[qBb]
 rw[zj (by omega) (by omega)]
 congr 1
theorem qw8 {N:Int}{ws:List (qDU)}{ns:qDU}:zN F N ws (k+1) ((ws.length:Int),ns)=some (((ws.length:Int) == N),ns):=by
 show yJ F N ws (zN F N ws k) (ws.length:Int) ns=_
 unfold yJ
 rw[if_neg (by simp)]
 rfl
theorem qsb {F:Nat}{g:List (qDU)}{B l K:Int}(hg:Gr g):∀ (k i:Nat) (T:List (qDU)),g.length<k+i→i≤g.length→T.length=g.length→T.take i=g.take i →
  qf2 F g B l K k ((i:Int),T)=some (g,B,l,K)
 | 0,i,_,h,hi,_,_=>by omega
 | k+1,i,T,h,hi,hT,ht=>by
  show qf0 F g B l K (qf2 F g B l K k) (i:Int) T=_
  unfold qf0
  have hl:=hg.1
  by_cases hlt:i<g.length
  ·rw[if_pos (decide_eq_true (by omega)),qo,qBc hlt]
   simp only[qBb]
   rw[qo,qBc (by omega)]
   simp only[qBb]
   have hr:=qdG hg (qBu hlt)
   unfold kP lett
   rw[zU (by grind)]
   simp only[qBb,qBy]
   rw[zj (by omega) (by omega)]
   refine qsb hg k (i+1) _ (by omega) (by omega) (by grind) ?_
   rw[qBh,qbX (by simp_all),qbX hlt,List.take_set_of_le (qBo i),ht]
   simp
  ·rw[if_neg (by simp_all)]
   have e:i=g.length:=by omega
   subst e
   rw[qB9 (by omega),qB9 (qBo _)] at ht
   subst ht
   rfl
theorem qgr (hF:200≤F)(hg:Gr g):qfh F g B l K=some (g,B,l,K):=by
 unfold qfh qf1
 have:=hg.1
 rw[qre (by omega)]
 simp only[qBb]
 exact qsb hg F 0 _ (by omega) (by omega) (qh1 _ _) rfl
theorem qla {e:Int}(hF:1000≤F)(he:∀ F,vv F B l K=some e):vu F g B l K=some (if gchk g≠0 then gchk g else e):=by
 grind [vu,jL]
theorem qvo {α:Type}{a b:α}:(idx [a,b] (0:Int))=some a∧(idx [a,b] (1:Int))=some b:=⟨rfl,rfl⟩
theorem qqJ (n:Nat):qdQ (n+400)=some true:=by kernel_rfl
theorem qAL {s:qDU}(h:vu F g B l K=some 0):j1 F g B l K s=zO F g B l K s:=by
 unfold j1
 rw[h]
 simp only[qBb]
 rw[if_neg (by simp)]
 cases zO F g B l K s <;> rfl
theorem qzL {e:Int}{s:qDU}(h:vu F g B l K=some e)(he:e≠0):j1 F g B l K s=some ([],0,0,0,[],e):=by
 grind [j1]
theorem qe1 {n s:qDU}:qct F g B l K n s=some ():=rfl
def dkE (e:Int)(g:List (qDU))(B l K:Int)(s:qDU):List (qDU)×Int×Int×Int×qDU×Int :=
 if e≠0 then ([],0,0,0,[],e) else (g,B,l,K,s,0)
theorem qjT {e:Int}{n s:qDU}:qz F e g B l K n s=some (dkE e g B l K s):=by
 grind [qz,dkE]
def Rch (g:List (qDU))(x y:Nat):Prop:=∃ k,Wk g k x y
theorem qhH (g:List (qDU))(x:Nat):Rch g x x:=⟨0,rfl⟩
theorem qah {z:Nat}:Rch g x y→Rch g y z→Rch g x z:=fun ⟨_,h1⟩ ⟨_,h2⟩=>⟨_,qrO h1 h2⟩
theorem qkH (h:Ld g x y):Rch g x y:=⟨1,qxf h⟩
def Sc (g:List (qDU))(x y:Nat):Prop:=Rch g x y∧Rch g y x
theorem qom (h:Sc g x y):Sc g y x:=⟨h.2,h.1⟩
theorem qjp {z:Nat}(h:Sc g x y)(h':Sc g y z):Sc g x z:=⟨qah h.1 h'.1,qah h'.2 h.2⟩
theorem qyh (g:List (qDU))(x:Nat):Sc g x x:=⟨qhH g x,qhH g x⟩
structure Wf (g:List (qDU)) (G:Nat→Prop) (cm:Nat→Nat) (op:List Nat) (pt:Nat→Int) (clk:Nat):Prop where
 clk_le:∀ x,cm x≤clk
 op_iff:∀ x,x∈op↔(cm x≠0∧pt x<0)
 op_pw:op.Pairwise fun a b=>cm a<cm b
 gop:∀ x,G x→x∈op
 blk:∀ x,cm x≠0→¬ G x→∀ y,Ld g x y→cm y≠0
 ass:∀ x,0≤pt x→cm x≠0∧Sc g x (pt x).toNat∧∀ y,Sc g x y→pt y=pt x∧pt x≤(y:Int)
 rch:∀ x,x∈op→∀ y,y∈op→cm x≤cm y→Rch g x y
 gry:∀ y,y∈op→∃ x,G x∧cm x≤cm y∧Rch g y x
 inN:∀ x,cm x≠0→x<g.length
structure Vp (g:List (qDU)) (G:Nat→Prop) (n:Nat) (cm:Nat→Nat) (op:List Nat) (pt:Nat→Int) (clk:Nat) (cm':Nat→Nat) (op':List Nat) (pt':Nat→Int) (clk' l:Nat):Prop where
 wf:Wf g G cm' op' pt' clk'
 old:∀ x,cm x≠0→cm' x=cm x
 pold:∀ x,cm x≠0→pt' x=pt x
 opx:∃ new,op'=op++new∧∀ x,x∈new→cm x=0
 vis:cm' n≠0
 clk_le:clk≤clk'
 newer:∀ x,cm x=0→cm' x≠0→clk<cm' x
 low_le:l≤cm' n
 low:(n∈op'∧∃ y,y∈op∧cm y=l∧Rch g n y)∨(n∉op'∧l=cm' n)
 low2:∀ x,x∈op'→cm x=0→∀ y,y∈op→Ld g x y→l≤cm y
structure Lp (g:List (qDU)) (G:Nat→Prop) (n:Nat) (cm0:Nat→Nat) (op0:List Nat) (pt0:Nat→Int) (clk0:Nat) (S:Nat→Prop) (cm:Nat→Nat) (op:List Nat) (pt:Nat→Int) (clk l:Nat):Prop where
 wf:Wf g (fun x=>G x∨x=n) cm op pt clk
 g0:∀ x,G x→x∈op0
 old:∀ x,cm0 x≠0→cm x=cm0 x
 pold:∀ x,cm0 x≠0→pt x=pt0 x
 new0:cm0 n=0
 clk_le:clk0≤clk
 newer:∀ x,cm0 x=0→cm x≠0→clk0<cm x
 opx:∃ new,op=op0++n::new∧∀ x,x∈new→cm0 x=0
 op0v:∀ x,x∈op0→cm0 x≠0
 gry0:∀ y,y∈op0→∃ x,G x∧cm0 x≤cm0 y∧Rch g y x
 low_le:l≤cm n
 low:∃ y,y∈op∧cm y=l∧Rch g n y
 low2:∀ x,x∈op→cm0 x=0→x≠n→∀ y,y∈op0→Ld g x y→l≤cm y
 low3:∀ y,S y→cm y≠0∧(y∈op0→l≤cm y)
def upd (f:Nat→Nat)(n v:Nat):Nat→Nat:=fun x=>if x=n then v else f x
theorem Wf.enter {G : Nat → Prop}{cm : Nat → Nat}{op : List Nat}{pt : Nat → Int}{n:Nat}(h : Wf g G cm op pt clk)(hn : cm n = 0)(hN : n < g.length)(hG : ∀ x, G x → Rch g x n) :
    Lp g G n cm op pt clk (fun _ => False) (upd cm n (clk + 1)) (op ++ [n]) pt (clk + 1) (clk + 1) := by
  have hpn : pt n < 0 := by
    by_cases hc : 0 ≤ pt n
    · exact absurd hn (h.ass n hc).1
    omega
  have hnop : n ∉ op := fun hm => ((h.op_iff n).1 hm).1 hn
  have hopne : ∀ x, x ∈ op → x ≠ n := fun x hx e => hnop (e ▸ hx)
  have un : upd cm n (clk + 1) n = clk + 1 := by unfold upd; simp
  have uo : ∀ x, x ≠ n → upd cm n (clk + 1) x = cm x := fun x hx => by grind [upd]
  have hg0 : ∀ x, G x → x ∈ op := h.gop
  have ton : ∀ x, x ∈ op → Rch g x n := fun x hx => by
    obtain ⟨z, hz, _, hr⟩ := h.gry x hx
    grind [qah]
  refine { wf := ?_, g0 := hg0, old := fun x hx => uo x (fun e => hx (e ▸ hn)), pold := fun x _ => rfl, new0 := hn, clk_le := Nat.le_succ _, newer := fun x hx hx' => ?_, opx := ⟨[], rfl, fun x hx => by grind⟩,
           op0v := fun x hx => ((h.op_iff x).1 hx).1, gry0 := h.gry, low_le := by omega, low := ⟨n, by simp, un, qhH g n⟩, low2 := ?_, low3 := fun y hy => hy.elim }
  · refine { clk_le := fun x => ?_, op_iff := fun x => ?_, op_pw := ?_, gop := fun x hx => ?_, blk := fun x hx hg y hy => ?_, ass := fun x hx => ?_, rch := fun x hx y hy hxy => ?_, gry := fun y hy => ?_, inN := fun x hx => ?_ }
    · by_cases e : x = n
      · simp_all
      · rw [uo x e]; exact Nat.le_succ_of_le (h.clk_le x)
    · rw [qBg, qBr]
      by_cases e : x = n
      · simp_all
      · rw [uo x e, ← h.op_iff x]; simp_all
    · rw [qCp]
      refine ⟨h.op_pw.imp_of_mem fun {a b} ha hb hab => by simp_all, by simp, fun a ha b hb => ?_⟩
      rw [qBr] at hb
      rw [hb, un, uo a (hopne a ha)]
      have := h.clk_le a; omega
    · grind
    · have hxn : x ≠ n := fun e => hg (.inr e)
      rw [uo x hxn] at hx
      by_cases e : y = n
      · simp_all
      · rw [uo y e]; exact h.blk x hx (fun hh => hg (.inl hh)) y hy
    · have := h.ass x hx
      grind
    · rw [qBg, qBr] at hx hy
      rcases hx with hx | hx
      · rcases hy with hy | hy
        · rw [uo x (hopne x hx), uo y (hopne y hy)] at hxy
          exact h.rch x hx y hy hxy
        simp_all
      · rcases hy with hy | hy
        · rw [hx, un, uo y (hopne y hy)] at hxy
          have := h.clk_le y; omega
        grind [qhH]
    · rw [qBg, qBr] at hy
      rcases hy with hy | hy
      · obtain ⟨z, hz, h1, h2⟩ := h.gry y hy
        grind
      · exact ⟨n, .inr rfl, by simp_all, by grind [qhH]⟩
    · by_cases e : x = n
      · omega
      · rw [uo x e] at hx; exact h.inN x hx
  · grind
  · intro x hx hx0 hxn
    rw [qBg, qBr] at hx
    rcases hx with hx | hx
    · exact absurd hx0 ((h.op_iff x).1 hx).1
    omega
theorem Lp.nmem {G:Nat→Prop}{n:Nat}{op:List Nat}{pt:Nat→Int}{l:Nat}(h:Lp g G n cm0 op0 pt0 clk0 S cm op pt clk l):n∈op:=by
 obtain ⟨new,e,_⟩:=h.opx
 simp_all
theorem Lp.op0m {G:Nat→Prop}{n:Nat}{op:List Nat}{pt:Nat→Int}{l:Nat}(h:Lp g G n cm0 op0 pt0 clk0 S cm op pt clk l)(hx:x∈op0):x∈op:=by
 obtain ⟨new,e,_⟩:=h.opx
 simp_all
theorem Lp.op0n {G:Nat→Prop}{n:Nat}{op:List Nat}{pt:Nat→Int}{l:Nat}(h:Lp g G n cm0 op0 pt0 clk0 S cm op pt clk l)(hx:x∈op0):cm x<cm n:=by
 obtain ⟨new,e,_⟩:=h.opx
 have:=h.wf.op_pw
 simp_all [qCp]
theorem Lp.white {G : Nat → Prop}{n : Nat}{cm0 : Nat → Nat}{pt0 : Nat → Int}{S : Nat → Prop}{cm : Nat → Nat}{op : List Nat}{pt : Nat → Int}{l:Nat}(h : Lp g G n cm0 op0 pt0 clk0 S cm op pt clk l){to : Nat}(hl : Ld g n to)(hto : cm to = 0){cm' : Nat → Nat}{op' : List Nat}{pt' : Nat → Int}{clk' l2 : Nat}(hv : Vp g (fun x => G x ∨ x = n) to cm op pt clk cm' op' pt' clk' l2) : Lp g G n cm0 op0 pt0 clk0 (fun x => S x ∨ x = to) cm' op' pt' clk' (min l l2) := by
  have hvis : ∀ x, x ∈ op → cm x ≠ 0 := fun x hx => ((h.wf.op_iff x).1 hx).1
  have hc0 : ∀ x, cm0 x ≠ 0 → cm x ≠ 0 := fun x hx => by rw [h.old x hx]; omega
  obtain ⟨new, e1, e2⟩ := h.opx
  obtain ⟨new2, e3, e4⟩ := hv.opx
  have hsub : ∀ x, x ∈ op → x ∈ op' := fun x hx => by grind
  have hz : ∀ x, cm x = 0 → cm0 x = 0 := fun x hx => qC3 fun hc => hc0 x hc hx
  have hn : cm' n = cm n := hv.old n (hvis n h.nmem)
  have hm : ∀ a b c : Nat, min a b ≤ c ↔ a ≤ c ∨ b ≤ c := fun a b c => by omega
  have hvv : ∀ x, cm x ≠ 0 → cm' x ≠ 0 := fun x hx => by rw [hv.old x hx]; omega
  refine { wf := hv.wf, g0 := h.g0, old := fun x hx => by rw [hv.old x (hc0 x hx)]; exact h.old x hx, pold := fun x hx => by rw [hv.pold x (hc0 x hx)]; exact h.pold x hx, new0 := h.new0,
           clk_le := Nat.le_trans h.clk_le hv.clk_le, newer := fun x hx hx' => ?_,
           opx := ⟨new ++ new2, by simp_all, fun x hx => ?_⟩, op0v := h.op0v, gry0 := h.gry0, low_le := ?_, low := ?_, low2 := fun x hx hx0 hxn y hy hxy => ?_, low3 := fun y hy => ?_ }
  · by_cases hc : cm x = 0
    · have := hv.newer x hc hx'
      have := h.clk_le; omega
    · rw [hv.old x hc]; exact h.newer x hx hc
  · grind
  · rw [hn, hm]; exact .inl h.low_le
  · by_cases hc : l ≤ l2
    · obtain ⟨y, h1, h2, h3⟩ := h.low
      exact ⟨y, hsub y h1, by rw [hv.old y (hvis y h1), h2]; omega, h3⟩
    · rcases hv.low with ⟨_, y, h1, h2, h3⟩ | ⟨h1, h2⟩
      · exact ⟨y, hsub y h1, by rw [hv.old y (hvis y h1), h2]; omega, qah (qkH hl) h3⟩
      · exfalso
        have a := hv.newer to hto hv.vis
        have b := h.wf.clk_le n
        have c := h.low_le
        omega
  · rw [hv.old y (hvis y (h.op0m hy)), hm]
    by_cases hc : cm x = 0
    · exact .inr (hv.low2 x hx hc y (h.op0m hy) hxy)
    · refine .inl (h.low2 x ?_ hx0 hxn y hy hxy)
      grind
  · rw [hm]
    rcases hy with hy | hy
    · refine ⟨hvv y (h.low3 y hy).1, fun h0 => .inl ?_⟩
      rw [hv.old y (h.low3 y hy).1]; exact (h.low3 y hy).2 h0
    · subst hy
      exact ⟨hv.vis, fun h0 => absurd hto (hc0 y (h.op0v y h0))⟩
theorem Lp.open {G:Nat→Prop}{n:Nat}{op:List Nat}{pt:Nat→Int}{l:Nat}(h:Lp g G n cm0 op0 pt0 clk0 S cm op pt clk l){to:Nat}(hl:Ld g n to)(hto:cm to≠0)(hp:pt to<0) :
  Lp g G n cm0 op0 pt0 clk0 (fun x=>S x∨x=to) cm op pt clk (min l (cm to)):=by
 have hm:∀ a b c:Nat,min a b≤c↔a≤c∨b≤c:=fun a b c=>by omega
 refine { h with low_le:=?_,low:=?_,low2:=fun x hx hx0 hxn y hy hxy=>?_,low3:=fun y hy=>?_ }
 ·rw[hm];exact .inl h.low_le
 ·by_cases hc:l≤cm to
  ·obtain ⟨y,h1,h2,h3⟩:=h.low
   grind
  ·exact ⟨to,(h.wf.op_iff to).2 ⟨hto,hp⟩,by omega,qkH hl⟩
 ·rw[hm];exact .inl (h.low2 x hx hx0 hxn y hy hxy)
 ·rw[hm]
  rcases hy with hy | hy
  ·exact ⟨(h.low3 y hy).1,fun h0=>.inl ((h.low3 y hy).2 h0)⟩
  simp_all
theorem Lp.told {G:Nat→Prop}{n:Nat}{op:List Nat}{pt:Nat→Int}{l:Nat}(h:Lp g G n cm0 op0 pt0 clk0 S cm op pt clk l){to:Nat}(hto:cm to≠0)(hp:¬ pt to<0) :
  Lp g G n cm0 op0 pt0 clk0 (fun x=>S x∨x=to) cm op pt clk l:=by
 refine { h with low3:=fun y hy=>?_ }
 rcases hy with hy | hy
 ·exact h.low3 y hy
 ·subst hy
  exact ⟨hto,fun h0=>absurd ((h.wf.op_iff y).1 (h.op0m h0)).2 hp⟩
theorem Lp.stay {G : Nat → Prop}{n : Nat}{cm0 : Nat → Nat}{pt0 : Nat → Int}{S : Nat → Prop}{cm : Nat → Nat}{op : List Nat}{pt : Nat → Int}{l:Nat}(h : Lp g G n cm0 op0 pt0 clk0 S cm op pt clk l)(hS : ∀ y, Ld g n y → S y)(hl : l ≠ cm n) :
    Vp g G n cm0 op0 pt0 clk0 cm op pt clk l := by
  obtain ⟨new, e1, e2⟩ := h.opx
  have hlt : l < cm n := by have := h.low_le; omega
  have hvis : ∀ x, x ∈ op → cm x ≠ 0 := fun x hx => ((h.wf.op_iff x).1 hx).1
  have hback : ∃ y, y ∈ op0 ∧ cm y = l ∧ Rch g n y := by
    obtain ⟨y, h1, h2, h3⟩ := h.low
    refine ⟨y, ?_, h2, h3⟩
    rw [e1] at h1
    rcases qBg.1 h1 with h1 | h1
    · omega
    · exfalso
      have hpw := h.wf.op_pw
      grind [qBJ]
  obtain ⟨y0, hy0, hy1, hy2⟩ := hback
  have hcm0 : ∀ x, x ∈ op0 → cm x = cm0 x := fun x hx => h.old x (h.op0v x hx)
  refine { wf := { h.wf with gop := fun x hx => h.wf.gop x (.inl hx), blk := fun x hx hg y hy => ?_, gry := fun y hy => ?_ }, old := h.old, pold := h.pold,
           opx := ⟨n :: new, e1, fun x hx => (qBi.1 hx).elim (fun e => e ▸ h.new0) (e2 x)⟩, vis := hvis n h.nmem, clk_le := h.clk_le, newer := h.newer, low_le := h.low_le, low := .inl ⟨h.nmem, y0, hy0, by simp_all, hy2⟩, low2 := fun x hx hx0 y hy hxy => ?_ }
  · by_cases e : x = n
    · subst e; exact (h.low3 y (hS y hy)).1
    · exact h.wf.blk x hx (fun hh => hh.elim hg e) y hy
  · obtain ⟨x, hx, h1, h2⟩ := h.wf.gry y hy
    rcases hx with hx | hx
    · grind
    · subst hx
      obtain ⟨z, hz, h3, h4⟩ := h.gry0 y0 hy0
      refine ⟨z, hz, ?_, qah h2 (qah hy2 h4)⟩
      rw [hcm0 z (h.g0 z hz)]
      grind
  · rw [← hcm0 y hy]
    by_cases e : x = n
    · subst e; exact (h.low3 y (hS y hxy)).2 hy
    · exact h.low2 x hx hx0 e y hy hxy
theorem Lp.close {G : Nat → Prop}{n : Nat}{cm0 : Nat → Nat}{pt0 : Nat → Int}{S : Nat → Prop}{cm : Nat → Nat}{op : List Nat}{pt : Nat → Int}{l:Nat}(h : Lp g G n cm0 op0 pt0 clk0 S cm op pt clk l)(hS : ∀ y, Ld g n y → S y)(hl : l = cm n){C : List Nat}(hC : op = op0 ++ C)(hn : n ∈ C)(hC0 : ∀ x, x ∈ C → cm0 x = 0)(hCn : ∀ x, x ∈ C → cm n ≤ cm x){least : Nat}(hm : least ∈ C)(hle : ∀ y, y ∈ C → least ≤ y) :
    Vp g G n cm0 op0 pt0 clk0 cm op0 (fun x => if x ∈ C then (least : Int) else pt x) clk l := by
  have hvis : ∀ x, x ∈ op → cm x ≠ 0 := fun x hx => ((h.wf.op_iff x).1 hx).1
  have hopen : ∀ x, x ∈ op → pt x < 0 := fun x hx => ((h.wf.op_iff x).1 hx).2
  have hop : ∀ x, x ∈ op ↔ x ∈ op0 ∨ x ∈ C := fun x => by simp_all
  have hcm0 : ∀ x, x ∈ op0 → cm x = cm0 x := fun x hx => h.old x (h.op0v x hx)
  have hdis : ∀ x, x ∈ C → x ∉ op0 := fun x hx hx0 => h.op0v x hx0 (hC0 x hx)
  have hC1 : ∀ y, y ∈ C → Sc g n y := by
    intro y hy
    have hyo := (hop y).2 (.inr hy)
    refine ⟨h.wf.rch n h.nmem y hyo (hCn y hy), ?_⟩
    obtain ⟨z, hz, h1, h2⟩ := h.wf.gry y hyo
    rcases hz with hz | hz
    · have hz0 := h.g0 z hz
      exact qah h2 (h.wf.rch z (h.op0m hz0) n h.nmem (Nat.le_of_lt (h.op0n hz0)))
    simp_all
  have hC2 : ∀ k x y, Wk g k x y → x ∈ C → Rch g y n → y ∈ C := by
    intro k
    induction k with
    | zero => intro x y hw hx _; exact (show x = y from hw) ▸ hx
    | succ k ih =>
      rintro x y ⟨u, hxu, huy⟩ hx hyn
      refine ih u y huy ?_ hyn
      have hun : Rch g u n := qah ⟨k, huy⟩ hyn
      have hxo := (hop x).2 (.inr hx)
      have huv : cm u ≠ 0 := by
        by_cases e : x = n
        · subst e; exact (h.low3 u (hS u hxu)).1
        · refine h.wf.blk x (hvis x hxo) (fun hh => ?_) u hxu
          rcases hh with hh | hh
          · exact hdis x hx (h.g0 x hh)
          omega
      have hup : pt u < 0 := by
        refine qC3 fun hc => ?_
        have ha := h.wf.ass u (by omega)
        have := (ha.2.2 n ⟨hun, qah (hC1 x hx).1 (qkH hxu)⟩).1
        grind
      rcases (hop u).1 ((h.wf.op_iff u).2 ⟨huv, hup⟩) with hu0 | hu0
      · exfalso
        have hlt := h.op0n hu0
        by_cases e : x = n
        · subst e
          have := (h.low3 u (hS u hxu)).2 hu0; omega
        · have := h.low2 x hxo (hC0 x hx) e u hu0 hxu; omega
      omega
  have hmax : ∀ x y, x ∈ C → Sc g x y → y ∈ C := fun x y hx hxy => by
    obtain ⟨k, hk⟩ := hxy.1
    exact hC2 k x y hk hx (qah hxy.2 (hC1 x hx).2)
  refine { wf := { clk_le := h.wf.clk_le, op_iff := fun x => ?_, op_pw := ?_, gop := h.g0, blk := fun x hx hg y hy => ?_, ass := fun x hx => ?_, rch := fun x hx y hy => h.wf.rch x (h.op0m hx) y (h.op0m hy), gry := fun y hy => ?_, inN := h.wf.inN },
           old := h.old, pold := fun x hx => ?_, opx := ⟨[], by simp, fun x hx => by grind⟩, vis := hvis n h.nmem, clk_le := h.clk_le, newer := h.newer, low_le := h.low_le, low := .inr ⟨hdis n hn, hl⟩, low2 := fun x hx hx0 => absurd hx0 (h.op0v x hx) }
  · show _ ↔ cm x ≠ 0 ∧ (if x ∈ C then (least : Int) else pt x) < 0
    by_cases hx : x ∈ C
    · simp_all
    · rw [if_neg hx, ← h.wf.op_iff x, hop]
      simp_all
  · have := h.wf.op_pw
    grind
  · by_cases e : x = n
    · subst e; exact (h.low3 y (hS y hy)).1
    · exact h.wf.blk x hx (fun hh => hh.elim hg e) y hy
  · show cm x ≠ 0 ∧ Sc g x (if x ∈ C then (least : Int) else pt x).toNat ∧ ∀ y, Sc g x y → (if y ∈ C then (least : Int) else pt y) = (if x ∈ C then (least : Int) else pt x) ∧ (if x ∈ C then (least : Int) else pt x) ≤ (y : Int)
    have hx : 0 ≤ (if x ∈ C then (least : Int) else pt x) := hx
    by_cases hxC : x ∈ C
    · simp only [if_pos hxC, qBh]
      refine ⟨hvis x ((hop x).2 (.inr hxC)), qjp (qom (hC1 x hxC)) (hC1 least hm), fun y hy => ?_⟩
      grind
    · rw [if_neg hxC] at hx
      simp only [if_neg hxC]
      have ha := h.wf.ass x hx
      grind
  · obtain ⟨z, hz, h1, h2⟩ := h.gry0 y hy
    exact ⟨z, hz, by rw [hcm0 z (h.g0 z hz), hcm0 y hy]; omega, h2⟩
  · show (if x ∈ C then (least : Int) else pt x) = pt0 x
    rw [if_neg (fun hxC => hx (hC0 x hxC))]
    exact h.pold x hx
theorem Wf.empty {op:List Nat}{pt:Nat→Int}(h:Wf g (fun _=>False) cm op pt clk):op=[]:=by
 cases op with
 | nil=>rfl
 | cons x op =>
  obtain ⟨z,hz,_⟩:=h.gry x (by simp)
  simp_all
structure StrOk (g:List (qDU)) (p:qDU):Prop where
 len:p.length=g.length
 le:∀ t,t<g.length→0≤gD p t∧gD p t≤t
 sc:∀ t,t<g.length→Sc g t (gD p t).toNat
 least:∀ t u,t<g.length→Sc g t u→gD p t≤u
theorem StrOk.uni {q:qDU}(h:StrOk g p)(h':StrOk g q):p=q:=by
 refine qnW (by rw[h.len,h'.len]) fun t ht=>?_
 rw[h.len] at ht
 have a:=h.least t _ ht (h'.sc t ht)
 have b:=h'.least t _ ht (h.sc t ht)
 have c:=h.le t ht
 have d:=h'.le t ht
 omega
theorem StrOk.iff (h:StrOk g p)(hs:s<g.length)(ht:t<g.length):gD p s=gD p t↔Sc g s t:=by
 constructor
 ·intro e
  have a:=h.sc s hs
  rw[e] at a
  exact qjp a (qom (h.sc t ht))
 ·intro e
  have a:=h.least s _ hs (qjp e (h.sc t ht))
  have b:=h.least t _ ht (qjp (qom e) (h.sc s hs))
  have c:=h.le s hs
  have d:=h.le t ht
  omega
theorem qq0 (a b:Nat):imin (a:Int) (b:Int)=((min a b:Nat):Int):=by grind [imin]
def ti (n:Nat)(f:Nat→Int):qDU:=(qBx n).map f
def tl (n:Nat)(f:Nat→Nat):qDU:=ti n fun i=>(f i:Int)
theorem qgj (n:Nat)(f:Nat→Int):(ti n f).length=n:=by simp[ti]
theorem qg3 {n:Nat}{f:Nat→Int}{i:Nat}(h:i<n):(ti n f)[i]?=some (f i):=by simp[ti,h]
theorem qg4 {n:Nat}{f:Nat→Nat}{i:Nat}(h:i<n):(tl n f)[i]?=some (f i:Int):=qg3 h
theorem qte {n:Nat}{f:Nat→Int}{i:Nat}(h:i<n):gD (ti n f) i=f i:=by grind [gD,qg3]
theorem qoF {n:Nat}{f:Nat→Int}{i:Nat}{v:Int}:(ti n f).set i v=ti n fun x=>if x=i then v else f x:=by
 apply qBO
 grind [qgj,qg3]
theorem qjB {n:Nat}{f h:Nat→Int}(e:∀ x,x<n→f x=h x):ti n f=ti n h:=by
 grind [ti,qCL]
theorem qrK {n:Nat}{f:Nat→Nat}{i v:Nat}:(tl n f).set i (v:Int)=tl n (upd f i v):=by
 grind [tl,qoF,upd]
theorem qxd (n:Nat)(v:Int):qBd n v=ti n fun _=>v:=by
 apply qBO
 grind [qg3,qgj]
def wh (n:Nat)(cm:Nat→Nat):Nat:=((qBx n).filter fun x=>decide (cm x=0)).length
theorem qyU {n:Nat}{cm':Nat→Nat}(h:∀ x,cm x≠0→cm' x≠0):wh n cm'≤wh n cm:=by
 unfold wh
 refine qfy (List.nodup_range.filter _:List.Pairwise _ _) fun x hx=>?_
 grind
theorem qAv {n i v:Nat}(hi:i<n)(h0:cm i=0)(hv:v≠0):wh n (upd cm i v)+1≤wh n cm:=by
 unfold wh
 have:=qfy (L:=i::(qBx n).filter fun x=>decide (upd cm i v x=0)) (M:=(qBx n).filter fun x=>decide (cm x=0)) (by
  refine qCg.2 ⟨fun hm=>?_,(List.nodup_range.filter _:List.Pairwise _ _)⟩
  have:=(qB7.1 hm).2
  simp only[decide_eq_true_eq] at this
  unfold upd at this
  simp_all) (fun x hx=>by
  rcases qBi.1 hx with rfl | hx
  ·simp_all
  ·have hx:=qB7.1 hx
   refine qB7.2 ⟨hx.1,?_⟩
   simp only[decide_eq_true_eq] at hx ⊢
   grind [upd])
 omega
theorem Wf.op_len {G:Nat→Prop}{op:List Nat}{pt:Nat→Int}(h:Wf g G cm op pt clk):op.length≤g.length:=by
 have hnd:op.Nodup:=h.op_pw.imp fun {a b} hab e=>by simp_all
 have:=qfy (M:=qBx g.length) hnd fun x hx=>qCv.2 (h.inN x ((h.op_iff x).1 hx).1)
 simp_all
def mn (l:qDU)(m:Int):Int:=l.foldl imin m
theorem qzb {F:Nat}{l:qDU}(hm:l.length≤1000000):∀ (k i:Nat) (m:Int),l.length<k+i→i≤l.length→j9 F l k (m,(i:Int))=some (mn (l.drop i) m)
 | 0,_,_,_,_=>by omega
 | k+1,i,m,h,hi=>by
  show j8 F l (j9 F l k) m (i:Int)=_
  unfold j8
  by_cases hlt:i<l.length
  ·rw[if_pos (by simp_all),qo,qBc hlt]
   simp only[qBb]
   rw[qs (by omega),qzb hm k (i+1) (imin m l[i]) (by omega) (by omega),qBj hlt]
   rfl
  ·rw[if_neg (by simp_all),qBm (by omega)]
   rfl
theorem qzc:∀ (L:List Nat) (m:Nat),∃ x:Nat,mn (iz L) (m:Int)=(x:Int)∧(x=m∨x∈L)∧x≤m∧∀ y,y∈L→x≤y
 | [],m=>⟨m,rfl,.inl rfl,qBo _,fun y hy=>by simp at hy⟩
 | a::L,m=>by
  obtain ⟨x,h1,h2,h3,h4⟩:=qzc L (min m a)
  refine ⟨x,?_,?_,by omega,fun y hy=>?_⟩
  ·show mn (iz L) (imin (m:Int) (a:Int))=_
   rw[qq0];exact h1
  ·rcases h2 with h2 | h2
   ·by_cases hc:m≤a
    ·left;omega
    ·right;exact qBi.2 (.inl (by omega))
   ·exact .inr (qBi.2 (.inr h2))
  ·rcases qBi.1 hy with rfl | hy
   ·omega
   ·exact h4 y hy
theorem qzY {C:List Nat}(hF:C.length<F)(hm:C.length≤1000)(h0:C≠[]):∃ x:Nat,jv F (iz C)=some (x:Int)∧x∈C∧∀ y,y∈C→x≤y:=by
 cases C with
 | nil=>exact absurd rfl h0
 | cons a C =>
  obtain ⟨x,h1,h2,h3,h4⟩:=qzc C a
  refine ⟨x,?_,?_,fun y hy=>?_⟩
  ·unfold jv
   rw[if_neg (by simp[iz];omega)]
   have e0:idx (iz (a::C)) 0=some (a:Int):=rfl
   rw[e0]
   simp only[qBb]
   have:=qzb (F:=F) (l:=iz (a::C)) (by rw[qdj];omega) F 1 (a:Int) (by rw[qdj];omega) (by simp[iz])
   rw[show ((1:Nat):Int)=1 from rfl] at this
   rw[this]
   have e:(iz (a::C)).drop 1=iz C:=rfl
   rw[e,h1]
  ·rcases h2 with h2 | h2
   ·rw[h2];simp
   ·exact qBi.2 (.inr h2)
  ·rcases qBi.1 hy with rfl | hy
   ·exact h3
   ·exact h4 y hy
theorem qn4 {F:Nat}{l:qDU}{v:Int}{p:Nat}(hm:l.length≤1000000)(hp:l[p]?=some v)(hno:∀ j,j<p→l[j]?≠some v):∀ (k i:Nat),l.length<k+i→i≤p→kV F l v k (i:Int)=some (p:Int)
 | 0,i,h,hi=>by
  grind
 | k+1,i,h,hi=>by
  have hpl:=(qBv.1 hp).1
  show kU F l v (kV F l v k) (i:Int)=_
  unfold kU
  rw[if_pos (by grind),qo,qBc (by omega)]
  simp only[qBb]
  by_cases e:i=p
  ·simp_all
  ·have:=hno i (by omega)
   rw[qBc (by omega)] at this
   rw[if_neg (by grind),qs (by omega)]
   exact qn4 hm hp hno k (i+1) (by omega) (by omega)
theorem qr8 {F n:Nat}{cmL lwL op:qDU}{C:List Nat}{i:Nat}{pt:Nat→Int}{clk least:Int}(hop:op.drop i=iz C)(hi:i≤op.length)(hm:op.length≤1000)(hC:∀ x,x∈C→x<n):∀ (k j:Nat),C.length<k+j→j≤C.length →
  jI F cmL lwL op clk (i:Int) least k ((j:Int),ti n fun x=>if x∈C.take j then least else pt x)=some (cmL,lwL,op.take i,ti n (fun x=>if x∈C then least else pt x),clk)
 | 0,_,_,_=>by omega
 | k+1,j,h,hj=>by
  have hCl:C.length=op.length-i:=by
   have:=congrArg List.length hop
   grind [qdj]
  show jG F cmL lwL op clk (i:Int) least (jI F cmL lwL op clk (i:Int) least k) (j:Int) (ti n fun x=>if x∈C.take j then least else pt x)=_
  unfold jG
  rw[qBh]
  by_cases hlt:j<C.length
  ·have hcj:=hC C[j] (qBu hlt)
   rw[if_pos (by grind),hop,qo,qvs hlt]
   simp only[qBb]
   have hgd:C.getD j 0=C[j]:=by grind
   rw[hgd,qo,qg3 hcj]
   simp only[qBb]
   unfold lett
   rw[qBh,qoF,qs (by omega)]
   have e:(ti n fun x=>if x=C[j] then least else if x∈C.take j then least else pt x)=ti n fun x=>if x∈C.take (j+1) then least else pt x:=by
    refine qjB fun x _=>?_
    rw[qbX hlt]
    grind
   rw[e]
   exact qr8 hop hi hm hC k (j+1) (by omega) (by omega)
  ·rw[if_neg (by simp_all)]
   unfold jH
   have es:sub op 0 (i:Int)=some (op.take i):=by
    have:=qkp (l:=op) (i:=0) (j:=i) (by omega) hi
    simp_all
   grind
theorem quN {N n:Nat}{cmL lwL:qDU}{C:List Nat}{pt:Nat→Int}{clk:Int}(hF:2000≤F)(hn:C.head?=some n)(hn0:n∉op0)(hm:(op0++C).length≤1000)(hC:∀ x,x∈C→x<N) :
  ∃ least:Nat,vY F g cmL lwL (iz (op0++C)) (ti N pt) clk (n:Int)=some (cmL,lwL,iz op0,ti N (fun x=>if x∈C then (least:Int) else pt x),clk)∧least∈C∧∀ y,y∈C→least≤y:=by
 obtain ⟨C',rfl⟩:∃ C',C=n::C':=by
  cases C with
  | nil=>grind
  | cons a C'=>simp_all
 have happ:iz (op0++n::C')=iz op0++iz (n::C'):=by simp[iz]
 have hdrop:(iz (op0++n::C')).drop op0.length=iz (n::C'):=by grind [qdj]
 rw[qBk] at hm
 simp only[qBA] at hm
 obtain ⟨least,e1,e2,e3⟩:=qzY (F:=F) (C:=n::C') (by grind) (by grind) (by simp)
 refine ⟨least,?_,e2,e3⟩
 have hil:(iz (op0++n::C')).length=op0.length+(C'.length+1):=by grind [qdj]
 have hix:=qn4 (F:=F) (l:=iz (op0++n::C')) (v:=(n:Int)) (p:=op0.length) (by omega) (by rw[happ,List.getElem?_append_right (by grind),qdj,Nat.sub_self];rfl) (fun j hj=>by
  grind [qdj,qvs]) F 0 (by omega) (by omega)
 rw[show ((0:Nat):Int)=0 from rfl] at hix
 unfold vY kR
 rw[hix]
 simp only[qBb]
 unfold chk
 rw[if_pos (by grind),qBh,hdrop,e1]
 simp only[qBb]
 have:=qr8 (F:=F) (n:=N) (cmL:=cmL) (lwL:=lwL) (op:=iz (op0++n::C')) (C:=n::C') (i:=op0.length) (pt:=pt) (clk:=clk) (least:=(least:Int)) hdrop (by omega) (by omega) hC F 0 (by grind) (by omega)
 rw[show ((0:Nat):Int)=0 from rfl] at this
 grind [qjB,qdj]
def VOk (g:List (qDU))(V:(List (qDU))→(qDU)→(qDU)→(qDU)→(qDU)→Int→Int→Option (qDU×qDU×qDU×qDU×Int))(d:Nat):Prop :=
 ∀ (G:Nat→Prop) (cm lw:Nat→Nat) (op:List Nat) (pt:Nat→Int) (clk n:Nat),Wf g G cm op pt clk→cm n=0→n<g.length→(∀ x,G x→Rch g x n)→wh g.length cm≤d→clk+wh g.length cm≤1000 →
  ∃ (cm' lw':Nat→Nat) (op':List Nat) (pt':Nat→Int) (clk':Nat),V g (tl g.length cm) (tl g.length lw) (iz op) (ti g.length pt) (clk:Int) (n:Int)=some (tl g.length cm',tl g.length lw',iz op',ti g.length pt',(clk':Int)) ∧
   Vp g G n cm op pt clk cm' op' pt' clk' (lw' n)∧(∀ x,cm x≠0→lw' x=lw x)∧clk'+wh g.length cm'≤clk+wh g.length cm
theorem qkL {F n d clk0:Nat}{g:List (qDU)}{G:Nat→Prop}{cm0 lw0:Nat→Nat}{op0:List Nat}{pt0:Nat→Int}{r:qDU}{V:(List (qDU))→(qDU)→(qDU)→(qDU)→(qDU)→Int→Int→Option (qDU×qDU×qDU×qDU×Int)}(hF:2000≤F)(hg:Gr g)(hV:VOk g V d)(hr:g[n]?=some r)(hGn:∀ x,G x→Rch g x n):∀ (k j:Nat) (cm lw:Nat→Nat) (op:List Nat) (pt:Nat→Int) (clk:Nat),r.length<k+j→j≤r.length →
  Lp g G n cm0 op0 pt0 clk0 (fun y=>(y:Int)∈r.take j) cm op pt clk (lw n)→wh g.length cm≤d→clk+wh g.length cm≤1000→(∀ x,cm0 x≠0→lw x=lw0 x) →
  ∃ (cm' lw':Nat→Nat) (op':List Nat) (pt':Nat→Int) (clk':Nat),zm F V g (n:Int) r k ((j:Int),tl g.length cm,tl g.length lw,iz op,ti g.length pt,(clk:Int))=some (tl g.length cm',tl g.length lw',iz op',ti g.length pt',(clk':Int)) ∧
   Vp g G n cm0 op0 pt0 clk0 cm' op' pt' clk' (lw' n)∧(∀ x,cm0 x≠0→lw' x=lw0 x)∧clk'+wh g.length cm'≤clk+wh g.length cm
 | 0,_,_,_,_,_,_,_,_,_,_,_,_=>by omega
 | k+1,j,cm,lw,op,pt,clk,h,hj,hL,hd,hc,hlw=>by
  have h100:=hg.1
  have hrm:=qBe hr
  have hrl:=qdG hg hrm
  have hrx:=(hg.2.1 r hrm).2
  have hnN:n<g.length:=(qBv.1 hr).1
  have hop:=hL.wf.op_len
  have hstep:zm F V g (n:Int) r (k+1) ((j:Int),tl g.length cm,tl g.length lw,iz op,ti g.length pt,(clk:Int))=yX F V g (n:Int) r (zm F V g (n:Int) r k) (j:Int) (tl g.length cm) (tl g.length lw) (iz op) (ti g.length pt) (clk:Int):=rfl
  rw[hstep]
  unfold yX
  by_cases hlt:j<r.length
  ·have hx:=hrx r[j] (qBu hlt)
   obtain ⟨x,hx1⟩:=qBf hx.1
   have hxN:x<g.length:=by omega
   have hld:Ld g n x:=qfw.2 ⟨r,hr,by grind⟩
   have hS:∀ {S:Nat→Prop} {cm:Nat→Nat} {op:List Nat} {pt:Nat→Int} {clk l:Nat},S=(fun (y:Nat)=>(y:Int)∈r.take j)→Lp g G n cm0 op0 pt0 clk0 (fun y=>S y∨y=x) cm op pt clk l→Lp g G n cm0 op0 pt0 clk0 (fun y=>(y:Int)∈r.take (j+1)) cm op pt clk l:=by
    grind [qbX]
   rw[if_pos (by simp_all),qo,qBc hlt,hx1]
   simp only[qBb]
   rw[qo,qg4 hxN]
   simp only[qBb]
   by_cases h0:cm x=0
   ·
    have hR:∀ y,(G y∨y=n)→Rch g y x:=fun y hy=>by
     grind [qah,qkH]
    obtain ⟨cm',lw',op',pt',clk',e1,e2,e3,e4⟩:=hV (fun y=>G y∨y=n) cm lw op pt clk x hL.wf h0 hxN hR hd hc
    rw[if_pos (by grind),e1]
    simp only[qBb]
    rw[qo,qg4 hnN]
    simp only[qBb]
    rw[qo,qg4 hxN]
    simp only[qBb]
    unfold lett
    rw[qq0,qBh,qrK]
    unfold zF
    rw[qs (by omega)]
    have hncm:cm n≠0:=((hL.wf.op_iff n).1 hL.nmem).1
    have hln:lw' n=lw n:=e3 n hncm
    have hL2:=hS rfl (hL.white hld h0 e2)
    have hwm:wh g.length cm'≤wh g.length cm:=qyU fun y hy=>by rw[e2.old y hy];omega
    have hun:upd lw' n (min (lw' n) (lw' x)) n=min (lw n) (lw' x):=by unfold upd;simp_all
    obtain ⟨cm2,lw2,op2,pt2,clk2,f1,f2,f3,f4⟩:=qkL (lw0:=lw0) hF hg hV hr hGn k (j+1) cm' (upd lw' n (min (lw' n) (lw' x))) op' pt' clk' (by omega) (by omega) (by rw[hun];exact hL2) (by omega) (by omega) (fun y hy=>by
     have hyn:y≠n:=fun e=>hy (e▸hL.new0)
     unfold upd
     rw[if_neg hyn,e3 y (by rw[hL.old y hy];omega)]
     simp_all)
    grind
   ·rw[if_neg (by simp_all),qo,qg3 hxN]
    simp only[qBb]
    by_cases hp:pt x<0
    ·rw[if_pos (by grind),qo,qg4 hnN]
     simp only[qBb]
     unfold lett
     rw[qq0,qBh,qrK]
     unfold zF
     rw[qs (by omega)]
     have hun:upd lw n (min (lw n) (cm x)) n=min (lw n) (cm x):=by unfold upd;simp
     exact qkL (lw0:=lw0) hF hg hV hr hGn k (j+1) cm (upd lw n (min (lw n) (cm x))) op pt clk (by omega) (by omega) (by rw[hun];exact hS rfl (hL.open hld h0 hp)) hd hc (fun y hy=>by
      have hyn:y≠n:=fun e=>hy (e▸hL.new0)
      grind [upd])
    ·rw[if_neg (by grind)]
     unfold zF
     rw[qs (by omega)]
     exact qkL (lw0:=lw0) hF hg hV hr hGn k (j+1) cm lw op pt clk (by omega) (by omega) (hS rfl (hL.told h0 hp)) hd hc hlw
  ·have hall:∀ y,Ld g n y→(y:Int)∈r.take j:=fun y hy=>by
    obtain ⟨r',hr',hy'⟩:=qfw.1 hy
    grind
   rw[if_neg (by simp_all)]
   unfold jJ
   rw[qo,qg4 hnN]
   simp only[qBb]
   rw[qo,qg4 hnN]
   simp only[qBb]
   by_cases hl:lw n=cm n
   ·obtain ⟨new,o1,o2⟩:=hL.opx
    have hC0:∀ x,x∈n::new→cm0 x=0:=fun x hx=>(qBi.1 hx).elim (fun e=>e▸hL.new0) (o2 x)
    have hCo:∀ x,x∈n::new→x∈op:=fun x hx=>by simp_all
    have hCn:∀ x,x∈n::new→cm n≤cm x:=fun x hx=>by
     rcases qBi.1 hx with e | hx
     ·simp_all
     ·have:=hL.wf.op_pw
      grind [qBJ]
    obtain ⟨least,c1,c2,c3⟩:=quN (F:=F) (N:=g.length) (n:=n) (g:=g) (cmL:=tl g.length cm) (lwL:=tl g.length lw) (op0:=op0) (C:=n::new) (pt:=pt) (clk:=(clk:Int)) hF rfl (fun hm=>hL.op0v n hm hL.new0) (by grind) (fun x hx=>hL.wf.inN x ((hL.wf.op_iff x).1 (hCo x hx)).1)
    rw[if_pos (by grind),o1,c1]
    simp only[qBb]
    refine ⟨cm,lw,op0,_,clk,rfl,?_,hlw,qBo _⟩
    exact hL.close hall hl o1 (by simp) hC0 hCn c2 c3
   ·rw[if_neg (by grind)]
    exact ⟨cm,lw,op,pt,clk,rfl,hL.stay hall hl,hlw,qBo _⟩
theorem qqn {g:List (qDU)}(hg:Gr g):∀ (d F:Nat),2001+d≤F→VOk g (qX F) d
 | d,0,hF=>by omega
 | d,F+1,hF=>by
  intro G cm lw op pt clk n hwf hn hN hG hd hc
  have h100:=hg.1
  have hop:=hwf.op_len
  have hr:g[n]?=some g[n]:=qBc hN
  have hrl:=qdG hg (qBu hN)
  have hwu:=qAv (cm:=cm) (v:=clk+1) hN hn (by omega)
  obtain ⟨d',rfl⟩:=qCs (show d≠0 by omega)
  have hV:=qqn hg d' F (by omega)
  have hun:upd lw n (clk+1) n=clk+1:=by unfold upd;simp
  have hent:=hwf.enter hn hN hG
  have hL:Lp g G n cm op pt clk (fun y=>(y:Int)∈(g[n]).take 0) (upd cm n (clk+1)) (op++[n]) pt (clk+1) (upd lw n (clk+1) n):=by
   simp_all
  obtain ⟨cm',lw',op',pt',clk',e1,e2,e3,e4⟩:=qkL (F:=F) (lw0:=lw) (by omega) hg hV hr hG F 0 (upd cm n (clk+1)) (upd lw n (clk+1)) (op++[n]) pt (clk+1) (by omega) (by omega) hL (by omega) (by omega) (fun x hx=>by
   grind [upd])
  refine ⟨cm',lw',op',pt',clk',?_,e2,e3,by omega⟩
  rw[← e1]
  show ((idx (tl g.length cm) (n:Int)).bind fun _x33=>((idx (tl g.length lw) (n:Int)).bind fun _x37=>(lett ((tl g.length cm).set ((n:Int)).toNat (iadd .i64 (clk:Int) 1)) fun x41=>(lett ((tl g.length lw).set ((n:Int)).toNat (iadd .i64 (clk:Int) 1)) fun x44=>((app 8796093022208 (iz op) ([(n:Int)]:qDU)).bind fun x49=>((idx g (n:Int)).bind fun x455=>zm F (qX F) g (n:Int) x455 F (0,x41,x44,x49,ti g.length pt,iadd .i64 (clk:Int) 1)))))))=_
  rw[qo,qg4 hN]
  simp only[qBb]
  grind [qo,qg4,zU,lett,iz,qs,qBh,qrK]
theorem qlN {F:Nat}{g:List (qDU)}(hF:4000≤F)(hg:Gr g):∀ (k s:Nat) (cm lw:Nat→Nat) (pt:Nat→Int) (clk:Nat),g.length<k+s→s≤g.length→Wf g (fun _=>False) cm [] pt clk→clk+wh g.length cm≤1000→(∀ x,x<s→cm x≠0) →
  ∃ p,jw F g k ((s:Int),tl g.length cm,tl g.length lw,([]:qDU),ti g.length pt,(clk:Int))=some p∧StrOk g p
 | 0,_,_,_,_,_,_,_,_,_,_=>by omega
 | k+1,s,cm,lw,pt,clk,h,hs,hwf,hc,hv=>by
  have h100:=hg.1
  have hstep:jw F g (k+1) ((s:Int),tl g.length cm,tl g.length lw,([]:qDU),ti g.length pt,(clk:Int))=qdc F g (jw F g k) (s:Int) (tl g.length cm) (tl g.length lw) [] (ti g.length pt) (clk:Int):=rfl
  rw[hstep]
  unfold qdc
  by_cases hlt:s<g.length
  ·rw[if_pos (by simp_all),qo,qg4 hlt]
   simp only[qBb]
   by_cases h0:cm s=0
   ·have hwl:wh g.length cm≤g.length:=by
     grind [wh]
    obtain ⟨cm',lw',op',pt',clk',e1,e2,e3,e4⟩:=qqn hg g.length F (by omega) (fun _=>False) cm lw [] pt clk s hwf h0 hlt (fun x hx=>hx.elim) hwl hc
    have hop:=e2.wf.empty
    subst hop
    have e1':qX F g (tl g.length cm) (tl g.length lw) [] (ti g.length pt) (clk:Int) (s:Int)=some (tl g.length cm',tl g.length lw',iz [],ti g.length pt',(clk':Int)):=e1
    rw[if_pos (by grind),e1']
    simp only[qBb]
    unfold vN
    rw[qs (by omega)]
    refine qlN hF hg k (s+1) cm' lw' pt' clk' (by omega) (by omega) e2.wf (by omega) fun x hx=>?_
    by_cases e:x=s
    ·rw[e];exact e2.vis
    ·have:=hv x (by omega)
     rw[e2.old x this];omega
   ·rw[if_neg (by simp_all)]
    unfold vN
    rw[qs (by omega)]
    refine qlN hF hg k (s+1) cm lw pt clk (by omega) (by omega) hwf hc fun x hx=>?_
    grind
  ·rw[if_neg (by simp_all)]
   refine ⟨_,rfl,?_⟩
   have hpos:∀ t,t<g.length→0≤pt t:=fun t ht=>by
    have:=hwf.op_iff t
    grind
   refine ⟨qgj _ _,fun t ht=>?_,fun t ht=>?_,fun t u ht htu=>?_⟩
   ·rw[qte ht]
    exact ⟨hpos t ht,((hwf.ass t (hpos t ht)).2.2 t (qyh g t)).2⟩
   ·rw[qte ht]
    exact (hwf.ass t (hpos t ht)).2.1
   ·rw[qte ht]
    exact ((hwf.ass t (hpos t ht)).2.2 u htu).2
theorem qm6 (hF:4000≤F)(hg:Gr g):∃ p,qaa F g=some p∧StrOk g p:=by
 have h100:=hg.1
 unfold qaa
 have hmk:mk 17592186044416 (0:Int) (g.length:Int)=some (qBd g.length 0):=by
  grind [mk]
 rw[hmk,qwe (by omega) hg.1]
 simp only[qBb]
 unfold qdd
 have hwf:Wf g (fun _=>False) (fun _=>0) [] (fun _=>-1) 0:=by
  refine { clk_le:=fun x=>qBo _,op_iff:=fun x=>by simp,op_pw:=qDw,gop:=fun x hx=>hx.elim,blk:=fun x hx=>absurd rfl hx,ass:=fun x hx=>by omega,rch:=fun x hx=>by simp,gry:=fun x hx=>by grind,inN:=fun x hx=>absurd rfl hx }
 have hwl:wh g.length (fun _=>0)≤g.length:=by
  grind [wh]
 obtain ⟨p,e1,e2⟩:=qlN (F:=F) hF hg F 0 (fun _=>0) (fun _=>0) (fun _=>-1) 0 (by omega) (by omega) hwf (by omega) (fun x hx=>by omega)
 refine ⟨p,?_,e2⟩
 rw[← e1,qxd,qxd]
 rfl
def spartL (g:List (qDU)):qDU:=(qaa 4000 g).getD []
theorem qhU (hg:Gr g):StrOk g (spartL g):=by
 obtain ⟨p,h1,h2⟩:=qm6 (F:=4000) (qBo _) hg
 grind [spartL]
theorem qt2 (hF:4000≤F)(hg:Gr g):qaa F g=some (spartL g):=by
 obtain ⟨p,h1,h2⟩:=qm6 hF hg
 rw[h1,h2.uni (qhU hg)]
def spartM (g:List (qDU)):qDU×Int:=if gchk g≠0 then ([],gchk g) else (spartL g,0)
theorem qtY (hF:4000≤F):qdb F g=some (spartM g):=by
 grind [qdb,spartM,jL,qt2,jA]
theorem qv6:∀ {A B:qDU},A.Pairwise (·<·)→B.Pairwise (·<·)→(∀ z,z∈A↔z∈B)→A=B
 | [],[],_,_,_=>rfl
 | [],s::B,_,_,h=>by have:=(h s).2 (by simp);simp at this
 | r::A,[],_,_,h=>by have:=(h r).1 (by simp);simp at this
 | r::A,s::B,hA,hB,h=>by
  obtain ⟨fA,pA⟩:=qBJ.1 hA
  obtain ⟨fB,pB⟩:=qBJ.1 hB
  have hrs:r=s:=by
   rcases qBi.1 ((h r).1 (by simp)) with h1 | h1
   ·exact h1
   ·rcases qBi.1 ((h s).2 (by simp)) with h2 | h2
    ·exact h2.symm
    ·have:=fA s h2;have:=fB r h1;omega
  subst hrs
  congr 1
  refine qv6 pA pB fun x=>⟨fun hx=>?_,fun hx=>?_⟩
  ·rcases qBi.1 ((h x).1 (by simp[hx])) with h1 | h1
   ·subst h1;have:=fA x hx;omega
   ·exact h1
  ·rcases qBi.1 ((h x).2 (by simp[hx])) with h1 | h1
   ·subst h1;have:=fB x hx;omega
   ·exact h1
theorem qxW {x y:Int}:qcN F x y=some (decide (x<y)):=by
 grind [qcN,vo,qa9]
theorem qxR {i j:Nat}(h:i+j<1000000000):iconv .i64 (ishr .u64 (iconv .u64 (iadd .i64 (i:Int) (j:Int))) 1)=(((i+j)/2:Nat):Int):=by
 rw[qb3 (by omega)]
 have e1:iconv .u64 ((i+j:Nat):Int)=((i+j:Nat):Int):=jC (by omega) (by omega)
 have e2:=qhN (k:=.u64) (a:=((i+j:Nat):Int)) (m:=1) (by decide)
 rw[show ((1:Nat):Int)=1 from rfl,show (2:Int)^1=2 from rfl] at e2
 rw[e1,e2]
 have e3:((i+j:Nat):Int)/2=(((i+j)/2:Nat):Int):=by omega
 rw[e3]
 exact yk (by omega) (by omega)
theorem qlJ {F:Nat}{l:qDU}{v:Int}(hl:l.Pairwise (·<·))(hm:l.length≤100000):∀ (k i j:Nat),j<k+i→i≤j→j≤l.length→(∀ z∈l.take i,z<v)→(∀ z∈l.drop j,v≤z) →
  ∃ p,ym F l v k ((i:Int),(j:Int))=some (p,decide (v∈l))
 | 0,_,_,_,_,_,_,_=>by omega
 | k+1,i,j,h,hij,hj,h1,h2=>by
  show ∃ p,yl F l v (ym F l v k) (i:Int) (j:Int)=_
  unfold yl
  by_cases hlt:i<j
  ·have hh:(i+j)/2<l.length:=by omega
   rw[if_pos (by simp_all)]
   unfold lett
   rw[qxR (by omega)]
   simp only
   rw[qo,qBc hh]
   simp only[qBb]
   rw[qxW]
   simp only[qBb]
   by_cases hc:l[(i+j)/2]<v
   ·rw[decide_eq_true hc,if_pos rfl,qs (by omega)]
    refine qlJ hl hm k ((i+j)/2+1) j (by omega) (by omega) hj (fun z hz=>?_) h2
    grind [qCf,qBN]
   ·rw[decide_eq_false hc,if_neg (by simp)]
    refine qlJ hl hm k i ((i+j)/2) (by omega) (by omega) (by omega) h1 (fun z hz=>?_)
    obtain ⟨q,hq⟩:=qCf hz
    rw[List.getElem?_drop] at hq
    have hq1:=(qBv.1 hq).1
    rw[qBc hq1] at hq
    simp only[qBl] at hq
    subst hq
    by_cases e:q=0
    ·simp_all
    grind [qBN]
  ·obtain rfl:i=j:=by omega
   rw[if_neg (by simp)]
   unfold yq
   by_cases hi:i<l.length
   ·have hd:l.drop i=l[i]::l.drop (i+1):=qBj hi
    have hmem:v∈l↔l[i]=v:=by
     grind [List.take_append_drop,qBu]
    rw[if_pos (by grind),qo,qBc hi]
    simp only[qBb]
    by_cases he:l[i]=v
    ·rw[if_pos (by grind),decide_eq_true (hmem.2 he)]
     exact ⟨_,rfl⟩
    ·rw[if_neg (by grind),decide_eq_false (fun h=>he (hmem.1 h))]
     unfold qaE
     simp only[qBb,bne_self_eq_false,qBq,if_false]
     exact ⟨_,rfl⟩
   ·rw[if_neg (by simp_all)]
    have hn:v∉l:=by
     grind
    rw[decide_eq_false hn]
    exact ⟨_,rfl⟩
theorem qj5 (hF:200000≤F){l:qDU}{v:Int}(hl:l.Pairwise (·<·))(hm:l.length≤100000):∃ p,zu F l v=some (p,decide (v∈l)):=by
 unfold zu
 exact qlJ hl hm F 0 l.length (by omega) (by omega) (qBo _) (by simp) (by simp)
def tb:Bool→Int→List Bool→qDU
 | _,_,[]=>[]
 | c,m,b::bs=>if b != c then m::tb b 1 bs else tb c (m+1) bs
theorem qjz (c:Bool)(m:Int)(bs:List Bool):tb c m (c::bs)=tb c (m+1) bs:=by
 show (if c != c then _ else _)=_
 simp
theorem qjA {c b:Bool}(h:b≠c)(m:Int)(bs:List Bool):tb c m (b::bs)=m::tb b 1 bs:=by
 show (if b != c then _ else _)=_
 simp_all
theorem qrJ:∀ (c:Bool) (m:Int) (bs:List Bool),(tb c m bs).length≤bs.length
 | _,_,[]=>qBo _
 | c,m,b::bs=>by
  by_cases h:b=c
  ·subst h
   rw[qjz]
   have:=qrJ b (m+1) bs
   grind
  ·rw[qjA h,qBA,qBA]
   have:=qrJ b 1 bs
   omega
def hasB (l:qDU)(x:Int):Bool:=decide (x∈l)
def tbs (fr0 l:qDU):qDU:=tb true 0 (fr0.map (hasB l))
def rst (fr0 l:qDU):qDU:=l.filter fun x=>!hasB fr0 x
theorem qAd {o:qDU}{c b:Bool}{m:Int}(ho:o.length≤1000000)(hm:0≤m∧m≤1000000):qaC F o c m b=some (if b != c then (o++[m],b,1) else (o,c,m+1)):=by
 grind [qaC,vW,zj,zU]
theorem qj1 {F:Nat}(hF:200000≤F){fr0 l o:qDU}(hf:fr0.Pairwise (·<·))(hfm:fr0.length≤300)(hm:l.length≤300):∀ (k i:Nat) (r:qDU),l.length<k+i→i≤l.length→r.length≤i →
  qcp F fr0 l o k (r,(i:Int))=some (o,r++rst fr0 (l.drop i))
 | 0,_,_,_,_,_=>by omega
 | k+1,i,r,h,hi,hr=>by
  show qeE F fr0 l o (qcp F fr0 l o k) r (i:Int)=_
  unfold qeE
  by_cases hlt:i<l.length
  ·obtain ⟨p,hp⟩:=qj5 hF (v:=l[i]) hf (by omega)
   rw[if_pos (by simp_all),qo,qBc hlt,qBj hlt]
   simp only[qBb]
   rw[hp]
   simp only[qBb]
   unfold qco rst
   rw[qCW,qs (by omega)]
   by_cases hc:l[i]∈fr0
   ·rw[if_neg (by grind),if_neg (by simp[hasB,hc])]
    exact qj1 hF hf hfm hm k (i+1) r (by omega) (by omega) (by omega)
   ·rw[if_pos (by grind),if_pos (by simp[hasB,hc]),zU (by grind)]
    simp only[qBb]
    rw[qj1 hF hf hfm hm k (i+1) _ (by omega) (by omega) (by simp_all),qBn]
    rfl
  grind [qfr,rst]
theorem qrj {F:Nat}(hF:200000≤F){fr0 l:qDU}(hf:fr0.Pairwise (·<·))(hl:l.Pairwise (·<·))(hfm:fr0.length≤300)(hm:l.length≤300):∀ (k i:Nat) (o:qDU) (c:Bool) (m:Int),fr0.length<k+i→i≤fr0.length→o.length≤i→0≤m∧m≤i →
  qeG F fr0 l k ((i:Int),o,c,m)=some (o++tb c m ((fr0.drop i).map (hasB l)),rst fr0 l)
 | 0,_,_,_,_,_,_,_,_=>by omega
 | k+1,i,o,c,m,h,hi,ho,hmm=>by
  show qeF F fr0 l (qeG F fr0 l k) (i:Int) o c m=_
  unfold qeF
  by_cases hlt:i<fr0.length
  ·obtain ⟨p,hp⟩:=qj5 hF (v:=fr0[i]) hl (by omega)
   rw[if_pos (by simp_all),qo,qBc hlt,qBj hlt,qBU]
   simp only[qBb]
   rw[hp]
   simp only[qBb]
   rw[qAd (by omega) (by omega)]
   simp only[qBb]
   rw[qs (by omega)]
   have hb:hasB l fr0[i]=decide (fr0[i]∈l):=rfl
   rw[← hb]
   by_cases hc:hasB l fr0[i]=c
   ·rw[if_neg (by grind)]
    simp only
    rw[qrj hF hf hl hfm hm k (i+1) o c (m+1) (by omega) (by omega) (by omega) (by omega),hc,qjz]
   ·rw[if_pos (by grind)]
    simp only
    rw[qrj hF hf hl hfm hm k (i+1) _ _ 1 (by omega) (by omega) (by simp_all) (by omega),qjA hc,qBn]
    rfl
  ·rw[if_neg (by simp_all),qBm (by omega)]
   unfold qfq
   have:=qj1 hF (o:=o) hf hfm hm F 0 [] (by omega) (by omega) (by simp)
   rw[qBL,qBy] at this
   rw[show ((0:Nat):Int)=0 from rfl] at this
   rw[this]
   simp[tb]
theorem qpm {xs:qDU}(h:xs.Pairwise (·≤·)):∀ m,m≤xs.length→(Go.Lib.compactUpTo xs.toArray m).Pairwise (·<·)∧∀ z,z∈Go.Lib.compactUpTo xs.toArray m↔z∈xs.take m
 | 0,_=>by simp[Go.Lib.compactUpTo]
 | m+1,hm=>by
  obtain ⟨a1,a2⟩:=qpm h m (by omega)
  have hlt:m<xs.length:=by omega
  have hg:xs.toArray[m]! = xs[m]:=by simp_all
  rw[Go.Lib.compactUpTo_succ,hg,qbX hlt]
  have hle:∀ z∈xs.take m,z≤xs[m]:=fun z hz=>by
   obtain ⟨i,hi,rfl⟩:=qDi.1 hz
   grind [qBN]
  by_cases hk:Go.Lib.keeps xs.toArray m=true
  ·rw[if_pos hk]
   refine ⟨qCp.2 ⟨a1,by simp,fun a ha b hb=>?_⟩,fun z=>by grind⟩
   rw[qBr] at hb
   subst hb
   have ha':=(a2 a).1 ha
   have h1:=hle a ha'
   rcases qDr m with h0 | h0
   ·simp_all
   ·rw[qjU h0 hlt] at hk
    have hne:xs[m]≠xs[m-1]:=by grind
    obtain ⟨i,hi,rfl⟩:=qDi.1 ha'
    rw[qBW] at hi
    rw[List.getElem_take] at h1 ⊢
    have h2:xs[i]≤xs[m-1]:=by
     by_cases hi2:i=m-1
     ·simp_all
     ·exact qBN.1 h i (m-1) (by omega) (by omega) (by omega)
    grind [qBN]
  ·rw[if_neg hk,qBR]
   refine ⟨a1,fun z=>?_⟩
   rw[a2,qBg]
   rcases qDr m with h0 | h0
   ·grind [Go.Lib.keeps]
   ·rw[qjU h0 hlt] at hk
    have he:xs[m]=xs[m-1]:=by grind
    constructor
    ·simp_all
    ·rintro (h1 | h1)
     ·omega
     ·rw[qBr] at h1
      rw[h1,he]
      have:m-1<(xs.take m).length:=by grind
      have e:(xs.take m)[m-1]=xs[m-1]:=List.getElem_take
      grind
theorem qqO (h:xs.Pairwise (·≤·)):(Go.Lib.compact xs).Pairwise (·<·)∧∀ z,z∈Go.Lib.compact xs↔z∈xs:=by
 obtain ⟨a1,a2⟩:=qpm h xs.length (qBo _)
 refine ⟨a1,fun z=>?_⟩
 have:=a2 z
 rwa [qCk] at this
def exA (l:List (Int×Int)):List (Int×Int):=l.flatMap fun p=>if p.1≠p.2 then [(p.1,p.2),(p.2,p.1)] else []
theorem qxI {l:List (Int×Int)}{p:Int×Int}:p∈exA l↔p.1≠p.2∧(p∈l∨(p.2,p.1)∈l):=by
 unfold exA
 grind
theorem qsg (l:List (Int×Int)):(exA l).length≤2*l.length:=by
 induction l with
 | nil=>simp[exA]
 | cons p l ih =>
  grind [exA]
theorem qu3 {n:Nat}{l:List (Int×Int)}(h:InR n l):InR n (exA l):=fun p hp=>by
 obtain ⟨_,h1 | h1⟩:=qxI.1 hp
 ·exact h p h1
 ·have:=h _ h1;omega
def E (g:List (qDU)):List (Int×Int):=exA (af 0 g)
theorem qmU {F n:Nat}{yy:List (qDU)→(Int×Int)→Option (List (qDU) ⊕ Empty)}(hy:∀ s p,yy s p=qbw F s p.1 p.2):∀ (A acc:List (Int×Int)),InR n A→acc.length+A.length≤1000000 →
  vx yy A (tab n (exA acc))=some (.inl (tab n (exA (acc++A))))
 | [],acc,_,_=>by rw[qBR];rfl
 | p::A,acc,h,hm=>by
  rw[qBA] at hm
  obtain ⟨h1,h2,h3,h4⟩:=h p (by simp)
  have hrec:=qmU hy A (acc++[p]) (fun q hq=>h q (by grind)) (by grind)
  rw[qBn] at hrec
  show (yy _ p).bind _=_
  rw[hy]
  unfold qbw
  obtain ⟨a,ha⟩:=qBf h1
  obtain ⟨b,hb⟩:=qBf h3
  have e:p=((a:Int),(b:Int)):=Prod.ext ha hb
  have hex:=qsg acc
  have hl1:=qgA (exA acc) (a:Int)
  have hl2:=qgA (exA acc) (b:Int)
  subst e
  simp only at *
  by_cases hab:a=b
  ·grind [exA]
  ·have habi:¬ (a:Int)=(b:Int):=by omega
   have e1:exA (acc++[((a:Int),(b:Int))])=exA acc++[((a:Int),(b:Int))]++[((b:Int),(a:Int))]:=by
    grind [exA]
   have e2:rowOf (exA acc++[((a:Int),(b:Int))]) (b:Int)=rowOf (exA acc) (b:Int):=by
    grind [rowOf]
   rw[e1,qjy,qjy,e2] at hrec
   rw[if_pos (by simp_all),qo,qjx (by omega)]
   simp only[qBb]
   rw[qo,qjx (by omega)]
   simp only[qBb,chk,lett]
   rw[if_pos (by grind),zU (by grind)]
   simp only[qBb]
   rw[zU (by grind)]
   simp_all
def tb2 (n:Nat)(f h:Nat→qDU)(i:Nat):List (qDU):=(qBx n).map fun a=>if a<i then f a else h a
theorem qyM (n:Nat)(f h:Nat→qDU)(i:Nat):(tb2 n f h i).length=n:=by simp[tb2]
theorem qyL {n i:Nat}{f h:Nat→qDU}(hi:i<n):(tb2 n f h i)[i]?=some (h i):=by simp[tb2,hi]
theorem qyN {n i:Nat}{f h:Nat→qDU}:(tb2 n f h i).set i (f i)=tb2 n f h (i+1):=by
 apply qB8 (by simp[tb2])
 grind [tb2]
theorem qyK {n:Nat}{f h:Nat→qDU}:tb2 n f h n=(qBx n).map f:=by
 apply qB8 (by simp[tb2])
 grind [tb2]
theorem qvH {F n:Nat}{T:List (qDU)}{h:Nat→qDU}(hT:T.length=n)(hh:∀ i,(h i).length≤1000000)(hn:n≤1000000):∀ (k i:Nat),n<k+i→i≤n →
  qfb F T k ((i:Int),tb2 n (fun a=>Go.Lib.compact (srt (h a))) h i)=some ((qBx n).map fun a=>Go.Lib.compact (srt (h a)))
 | 0,_,_,_=>by omega
 | k+1,i,hk,hi=>by
  show qfa F T (qfb F T k) (i:Int) (tb2 n (fun a=>Go.Lib.compact (srt (h a))) h i)=_
  unfold qfa
  by_cases hlt:i<n
  ·have hrec:=qvH (F:=F) (T:=T) (h:=h) hT hh hn k (i+1) (by omega) (by omega)
   have hhi:=hh i
   have hsl:(srt (h i)).length=(h i).length:=qhV _
   have hcl:=qhv (srt (h i))
   rw[if_pos (by simp_all),qo,qyL hlt]
   simp only[qBb]
   unfold zb
   rw[if_pos (by omega)]
   simp only[qBb,chk,lett,qBh]
   grind [qo,qyM,zD,qs,List.set_set,qyN]
  ·rw[if_neg (by simp_all),show i=n from by omega,qyK]
   rfl
def nr (g:List (qDU)):List (qDU):=(qBx g.length).map fun i=>cols (E g) i g.length
theorem qfz (h:Gr g):IsTab g.length (E g) (nr g):=qqN (qu3 (qjf h))
theorem qx2 (hF:2000≤F)(hg:Gr g):qec F g=some (nr g):=by
 have h1:=hg.1
 have h2:=qnZ hg
 have hex:=qsg (af 0 g)
 unfold qec qao
 rw[qre (by omega)]
 simp only[qBb]
 rw[qqH (by omega) (by omega) (fun l hl=>by grind [qdG])]
 have hf:=qmU (F:=F) (n:=g.length) (yy:=fun x x_1=>qbw F x x_1.1 x_1.2) (fun _ _=>rfl) (af 0 g) [] (qjf hg) (by grind)
 rw[qBy] at hf
 refine (congrArg (fun z=>Option.bind z _) hf).trans ?_
 simp only[qBb,Sum.elim_inl]
 have e0:tab g.length (exA (af 0 g))=tb2 g.length (fun a=>Go.Lib.compact (srt (rowOf (exA (af 0 g)) (a:Nat)))) (fun (a:Nat)=>rowOf (exA (af 0 g)) a) 0:=by
  rfl
 have hl:=qvH (F:=F) (n:=g.length) (T:=tab g.length (exA (af 0 g))) (h:=fun (a:Nat)=>rowOf (exA (af 0 g)) a) (qh1 _ _) (fun i=>by grind [rowOf]) (by omega) F 0 (by omega) (by omega)
 rw[← e0] at hl
 refine Eq.trans hl ?_
 congr 1
 have ht:IsTab g.length (E g) ((qBx g.length).map fun (a:Nat)=>Go.Lib.compact (srt (rowOf (exA (af 0 g)) a))):=by
  refine ⟨by simp,fun i r hr=>?_⟩
  have hi:i<g.length:=by grind
  simp only[qCr,qDl hi,qCh,qBl] at hr
  subst hr
  obtain ⟨c1,c2⟩:=qqO (qop (rowOf (exA (af 0 g)) (i:Int)))
  exact ⟨c1,fun x=>by rw[c2,(qjq _).mem_iff,qmT];rfl⟩
 exact qlj ht (qfz hg) fun _=>Iff.rfl
theorem qiD (g:List (qDU)):(nr g).length=g.length:=by simp[nr]
def Nb (g:List (qDU))(i k:Nat):Bool:=decide (((i:Int),(k:Int))∈E g)
theorem qhC {i:Nat}(hi:i<g.length):(nr g)[i]?=some (cols (E g) i g.length):=by simp[nr,hi]
def P (g:List (qDU))(x:Nat):Nat:=(gD (spartL g) x).toNat
theorem qAE (hg:Gr g)(hx:x<g.length):gD (spartL g) x=(P g x:Int):=by
 have:=(qhU hg).le x hx
 unfold P;omega
theorem qAF (hg:Gr g)(hx:x<g.length)(hy:y<g.length):P g x=P g y↔Sc g x y:=by
 rw[← (qhU hg).iff hx hy,qAE hg hx,qAE hg hy];omega
theorem qAQ {L:List Nat}(h:L.Pairwise (·<·)):(iz L).Pairwise (·<·):=by
 grind [iz]
def ldB (g:List (qDU))(k i:Nat):Bool:=decide (((k:Int),(i:Int))∈af 0 g)
theorem qhP {i:Nat}:ldB g k i=true↔Ld g k i:=by unfold ldB Ld;simp
def free (g:List (qDU))(out:List Nat)(i:Nat):Bool:=decide (i∉out) && (qBx g.length).all fun k=>decide (k∈out) || !ldB g k i
theorem qjd {out:List Nat}{i:Nat}:free g out i=true↔i∉out∧∀ k,k<g.length→Ld g k i→k∈out:=by
 unfold free
 simp only[qBY,decide_eq_true_eq,List.all_eq_true,qCv,qCE,Bool.not_eq_true']
 refine and_congr Iff.rfl ⟨fun h k hk hl=>?_,fun h k hk=>?_⟩
 ·grind [qhP]
 ·by_cases hl:Ld g k i
  ·simp_all
  ·refine .inr ?_
   rw[← Bool.not_eq_true,qhP];omega
def nxO (g:List (qDU))(out:List Nat):Option Nat:=(qBx g.length).find? (free g out)
def ordM (g:List (qDU)):Nat→List Nat→Option (List Nat)
 | 0,out=>some out
 | m+1,out=>match nxO g out with
  | none=>none
  | some i=>ordM g m (out++[i])
def ordL (g:List (qDU)):Option (List Nat):=ordM g g.length []
structure OI (g:List (qDU)) (out:List Nat):Prop where
 nd:out.Nodup
 lt:∀ i,i∈out→i<g.length
 pre:∀ i,i∈out→∀ k,Ld g k i→k∈out
theorem OI.len {out:List Nat}(h:OI g out):out.length≤g.length:=by
 have:=qfy (M:=qBx g.length) h.nd fun x hx=>qCv.2 (h.lt x hx)
 simp_all
theorem qpI {out:List Nat}{i:Nat}(h:nxO g out=some i):i<g.length∧free g out i=true∧∀ j,j<i→free g out j=false:=by
 grind [nxO,List.find?_range_eq_some]
theorem qvM {out:List Nat}(h:nxO g out=none){i:Nat}(hi:i<g.length):free g out i=false:=by
 have:=List.find?_eq_none.1 h i (qCv.2 hi)
 simp_all
theorem OI.snoc (hg:Gr g){out:List Nat}{i:Nat}(h:OI g out)(hi:i<g.length)(hf:free g out i=true):OI g (out++[i]):=by
 obtain ⟨h1,h2⟩:=qjd.1 hf
 refine ⟨List.nodup_append.2 ⟨h.nd,by simp,fun a ha b hb e=>?_⟩,fun x hx=>?_,fun x hx k hk=>?_⟩
 ·simp_all
 ·rcases qBg.1 hx with hx | hx
  ·exact h.lt x hx
  simp_all
 ·rw[qBg]
  rcases qBg.1 hx with hx | hx
  ·exact .inl (h.pre x hx k hk)
  grind [qlm]
def cntP (g:List (qDU))(out:List Nat)(i:Nat):Nat:=((qBx g.length).filter fun k=>decide (k∉out) && ldB g k i).length
theorem qty {out:List Nat}{i:Nat}(hi:i∉out):cntP g out i=0↔free g out i=true:=by
 rw[qjd]
 unfold cntP
 rw[List.length_eq_zero_iff,List.filter_eq_nil_iff]
 simp only[qCv,qBY,decide_eq_true_eq,qhP,not_and]
 grind
theorem qlb {p:Nat→Bool}{n0:Nat}:∀ (L:List Nat),L.Nodup→(L.filter p).length=(L.filter fun k=>p k && decide (k≠n0)).length+if n0∈L∧p n0=true then 1 else 0
 | [],_=>by simp
 | a::L,h=>by
  obtain ⟨h1,h2⟩:=qCg.1 h
  have ih:=qlb (p:=p) (n0:=n0) L h2
  grind
theorem qtx {out:List Nat}{n0 i:Nat}(hn:n0<g.length)(h0:n0∉out):cntP g out i=cntP g (out++[n0]) i+if ldB g n0 i=true then 1 else 0:=by
 unfold cntP
 rw[qlb (n0:=n0) _ List.nodup_range]
 grind
def ahd (g:List (qDU))(out:List Nat)(i:Nat):Int:=if i∈out then -1 else (cntP g out i:Int)
theorem ahead0 (hg:Gr g):lens (tn g)=ti g.length (ahd g []):=by
 refine qnW (by grind [qgj,lens,qg5]) fun t ht=>?_
 have htn:t<g.length:=by grind [lens,qg5]
 have htl:t<(tn g).length:=by rw[qg5];omega
 rw[qte htn]
 have hr:(tn g)[t]?=some (tn g)[t]:=qBc htl
 have e1:gD (lens (tn g)) t=((tn g)[t].length:Int):=by grind [gD,lens]
 have e2:(tn g)[t]=iz ((qBx g.length).filter fun k=>ldB g k t):=by
  refine pwx ((qlZ hg).2.1 _ (qBu htl)).1 (qAQ (List.pairwise_lt_range.filter _)) fun z=>?_
  unfold iz
  rw[qBI]
  constructor
  ·intro hz
   have hz0:=((qlZ hg).2.1 _ (qBu htl)).2 z hz
   obtain ⟨k,rfl⟩:=qBf hz0.1
   rw[qg5] at hz0
   refine ⟨k,qB7.2 ⟨qCv.2 (by omega),?_⟩,rfl⟩
   rw[qhP,← qvv hg]
   grind [qfw]
  ·rintro ⟨k,hk,rfl⟩
   have:=(qB7.1 hk).2
   rw[qhP,← qvv hg] at this
   grind [qfw]
 grind [qdj,ahd,cntP]
theorem qvO {F n0:Nat}{g:List (qDU)}{out:List Nat}{r:qDU}{o:qDU}{rec18:(qDU×qDU)→Option (qDU×Int)}(hg:Gr g)(hr:g[n0]?=some r)(hno:∀ i,i∈out++[n0]→¬ Ld g n0 i):∀ (k j:Nat),r.length<k+j→j≤r.length →
  qaG F rec18 o (n0:Int) r k (ti g.length (fun i=>if i∈out++[n0] then -1 else (cntP g out i:Int)-if (i:Int)∈r.take j then 1 else 0),(j:Int))=qaF F rec18 o (n0:Int) (ti g.length fun i=>if i∈out++[n0] then -1 else (cntP g out i:Int)-if (i:Int)∈r then 1 else 0)
 | 0,_,_,_=>by omega
 | k+1,j,h,hj=>by
  have h100:=hg.1
  have hrm:=qBe hr
  have hrl:=qdG hg hrm
  have hrg:=hg.2.1 r hrm
  show qcy F rec18 o (n0:Int) r (qaG F rec18 o (n0:Int) r k) (ti g.length (fun i=>if i∈out++[n0] then -1 else (cntP g out i:Int)-if (i:Int)∈r.take j then 1 else 0)) (j:Int)=_
  unfold qcy
  by_cases hlt:j<r.length
  ·have hx:=hrg.2 r[j] (qBu hlt)
   obtain ⟨x,hx1⟩:=qBf hx.1
   have hxN:x<g.length:=by omega
   have hld:Ld g n0 x:=qfw.2 ⟨r,hr,by grind⟩
   have hxo:x∉out++[n0]:=fun hm=>hno x hm hld
   have hnew:¬ (x:Int)∈r.take j:=by
    grind [List.getElem_of_mem,qBN]
   have hcb:cntP g out x≤g.length:=by
    grind [cntP]
   rw[if_pos (by simp_all),qo,qBc hlt,hx1]
   simp only[qBb]
   rw[qo,qg3 hxN]
   simp only[qBb]
   unfold lett
   rw[if_neg hxo,if_neg hnew,qBh,zV (by omega) (by omega),qs (by omega),qoF]
   have e:(ti g.length fun i=>if i=x then (cntP g out x:Int)-0-1 else if i∈out++[n0] then -1 else (cntP g out i:Int)-if (i:Int)∈r.take j then 1 else 0)=ti g.length fun i=>if i∈out++[n0] then -1 else (cntP g out i:Int)-if (i:Int)∈r.take (j+1) then 1 else 0:=by
    refine qjB fun i _=>?_
    have hm:((i:Int)∈r.take (j+1))↔((i:Int)∈r.take j∨i=x):=by
     grind [qbX]
    grind
   show qaG F rec18 o (n0:Int) r k (ti g.length (fun i=>if i=x then (cntP g out x:Int)-0-1 else if i∈out++[n0] then -1 else (cntP g out i:Int)-if (i:Int)∈r.take j then 1 else 0),((j+1:Nat):Int))=_
   rw[e]
   exact qvO hg hr hno k (j+1) (by omega) (by omega)
  grind
theorem qlh {F:Nat}{l:qDU}{v:Int}(hm:l.length≤1000000)(hno:∀ j:Nat,l[j]?≠some v):∀ (k i:Nat),l.length<k+i→i≤l.length→kV F l v k (i:Int)=some (-1)
 | 0,_,_,_=>by omega
 | k+1,i,h,hi=>by
  show kU F l v (kV F l v k) (i:Int)=_
  unfold kU
  by_cases hlt:i<l.length
  ·have:=hno i
   rw[qBc hlt] at this
   rw[if_pos (by simp_all),qo,qBc hlt]
   simp only[qBb]
   rw[if_neg (by grind),qs (by omega)]
   exact qlh hm hno k (i+1) (by omega) (by omega)
  ·rw[if_neg (by simp_all)]
   rfl
def ordR (x:Option (List Nat)):qDU×Int:=match x with | none=>([],4) | some o=>(iz o,0)
theorem qsx {F:Nat}{g:List (qDU)}(hF:4000≤F)(hg:Gr g):∀ (m k:Nat) (out:List Nat),m<k→out.length+m=g.length→OI g out→vM F g k (ti g.length (ahd g out),iz out)=some (ordR (ordM g m out))
 | m,0,_,h,_,_=>by omega
 | m,k+1,out,h,hm,ho=>by
  have h100:=hg.1
  show qcx F g (vM F g k) (ti g.length (ahd g out)) (iz out)=_
  unfold qcx
  rw[qdj,qgj]
  cases m with
  | zero =>
   rw[if_neg (by simp_all)]
   rfl
  | succ m =>
   rw[if_pos (by grind)]
   unfold kR
   have hz:∀ i,i<g.length→((ti g.length (ahd g out))[i]?=some 0↔free g out i=true):=by
    grind [qg3,ahd,qjd,qty]
   cases hn:nxO g out with
   | none =>
    have:=qlh (F:=F) (l:=ti g.length (ahd g out)) (v:=0) (by rw[qgj];omega) (fun j=>by
     grind [qvM,qgj]) F 0 (by rw[qgj];omega) (by omega)
    rw[show ((0:Nat):Int)=0 from rfl] at this
    rw[this]
    simp only[qBb]
    rw[if_pos (by decide)]
    simp only[ordM,hn]
    rfl
   | some i =>
    obtain ⟨hi,hf,hl⟩:=qpI hn
    have:=qn4 (F:=F) (l:=ti g.length (ahd g out)) (v:=0) (p:=i) (by rw[qgj];omega) ((hz i hi).2 hf) (fun j hj he=>by
     grind) F 0 (by rw[qgj];omega) (by omega)
    rw[show ((0:Nat):Int)=0 from rfl] at this
    rw[this]
    simp only[qBb]
    obtain ⟨f1,f2⟩:=qjd.1 hf
    have hr:g[i]?=some g[i]:=qBc hi
    have hrl:=qdG hg (qBu hi)
    have hno:∀ x,x∈out++[i]→¬ Ld g i x:=fun x hx hld=>by
     rcases qBg.1 hx with hx | hx
     ·exact f1 (ho.pre x hx i hld)
     simp_all
    rw[if_neg (by simp),qo,qg3 hi]
    simp only[qBb]
    unfold lett
    rw[qBh,qo,hr]
    simp only[qBb]
    have hstart:(ti g.length (ahd g out)).set i (-1)=ti g.length fun x=>if x∈out++[i] then -1 else (cntP g out x:Int)-if (x:Int)∈(g[i]).take 0 then 1 else 0:=by
     grind [qoF,ahd]
    have hin:=qvO (F:=F) (out:=out) (o:=iz out) (rec18:=vM F g k) hg hr hno F 0 (by omega) (by omega)
    rw[show ((0:Nat):Int)=0 from rfl,← hstart] at hin
    rw[hin]
    unfold qaF
    rw[zU (by grind [qdj])]
    simp only[qBb]
    have hend:(ti g.length fun x=>if x∈out++[i] then -1 else (cntP g out x:Int)-if (x:Int)∈g[i] then 1 else 0)=ti g.length (ahd g (out++[i])):=by
     refine qjB fun x _=>?_
     grind [ahd,qtx,qfw,qhP]
    have hz2:iz out++[(i:Int)]=iz (out++[i]):=by simp[iz]
    rw[hend,hz2,qsx hF hg m k (out++[i]) (by omega) (by grind) (ho.snoc hg hi hf)]
    simp only[ordM,hn]
theorem quw (hF:4000≤F):qda F g=some (if gchk g≠0 then ([],gchk g) else ordR (ordL g)):=by
 unfold qda
 rw[qqS (by omega)]
 simp only[qBb]
 unfold degM
 by_cases h:gchk g=0
 ·have hg:=jA.1 h
  have h100:=hg.1
  have hn:¬ gchk g≠0:=by omega
  rw[if_neg hn,if_neg hn,if_neg (by simp)]
  simp only
  rw[ahead0 hg]
  exact qsx hF hg g.length F [] (by omega) (by simp) ⟨List.nodup_nil,fun i hi=>by grind,fun i hi=>by grind⟩
 simp_all
theorem qzZ {α:Type}{lim n:Nat}{y:α}(h:n≤lim):mk lim y (n:Int)=some (qBd n y):=by
 grind [mk]
def qa0 {σ τ:Type}(yy:σ→qDU→Option (σ ⊕ τ)):List (qDU)→σ→Option (σ ⊕ τ)
 | [],s=>some (.inl s)
 | r::R,s=>(yy s r).bind (Sum.elim (fun s'=>qa0 yy R s') (fun t=>some (.inr t)))
theorem qg1 {σ τ:Type}{yy:σ→qDU→Option (σ ⊕ τ)}:∀ (A B:List (qDU)) (s:σ),qa0 yy (A++B) s=(qa0 yy A s).bind (Sum.elim (fun s'=>qa0 yy B s') (fun t=>some (.inr t)))
 | [],B,s=>rfl
 | p::A,B,s=>by
  show (yy s p).bind _=((yy s p).bind _).bind _
  cases yy s p with
  | none=>rfl
  | some r =>
   cases r with
   | inl s'=>exact qg1 A B s'
   | inr t=>rfl
def rowX (X:List (qDU))(b:Int):qDU:=X.getD b.toNat []
def t3 (X:List (qDU))(a b:Int)(cs:qDU):List (qDU):=(cs.filter fun c=>decide (c∈rowX X b) && decide (a<b)).map fun c=>[a,b,c]
def t2 (X:List (qDU))(a:Int):qDU→List (qDU)
 | []=>[]
 | b::cs=>t3 X a b cs++t2 X a cs
def t1 (X:List (qDU))(i:Nat):List (qDU)→List (qDU)
 | []=>[]
 | l::R=>t2 X (i:Int) l++t1 X (i+1) R
def Rws (X:List (qDU)):Prop:=X.length≤100∧∀ l∈X,l.Pairwise (·<·)∧l.length≤100∧∀ x∈l,0≤x∧x<(X.length:Int)
end Go.Proofs.YthibchijlpflmaaGreatDoor
