/- Plain facts of what the functions of this seat compute. -/
import Derived.Test.YtlioijpkhffbnaaGreatModels
import Derived.KernelRfl
import Derived.Lib.SlicesCompact
open BitVec renaming ofInt→qyr, ofNat→qyJ, toNat_ofNat→qza, allOnes→qzm
open Bool renaming false_eq_true→qxZ, and_eq_true→qys, not_true→qyE, or_eq_true→qyZ, not_false→qzO
open Int renaming toNat_natCast→qxU, eq_ofNat_of_zero_le→qx0, tdiv_eq_ediv_of_nonneg→qyN, tmod_eq_emod_of_nonneg→qzd, natCast_mul→qzo, natCast_nonneg→qAg
open List renaming length_append→qxQ, getElem?_eq_getElem→qxR, append_assoc→qxS, drop_eq_getElem_cons→qxT, mem_append→qxV, drop_eq_nil_of_le→qxW, mem_of_getElem?→qxX, length_cons→qxY, mem_cons→qx1, replicate→qx3, getElem?_eq_some_iff→qx5, nil_append→qx6, mem_cons_of_mem→qx7, drop_zero→qx8, getElem_mem→qx9, length_drop→qya, length_take→qye, mem_cons_self→qyf, append_nil→qyh, getElem?_eq_none→qyi, nodup_append→qyu, map_cons→qyw, take_append_drop→qyA, getElem?_drop→qyF, length_map→qyG, getD→qyO, mem_filter→qyR, cons_append→qyS, length_replicate→qyU, mem_of_mem_take→qyV, pairwise_cons→qyW, pairwise_iff_getElem→qyY, range→qy0, filter_cons→qy1, getElem?_map→qy2, getElem?_append_left→qy4, perm_middle→qy8, ext_getElem?→qzc, take_length→qzf, drop_left→qzg, map_append→qzi, take_add_one→qzu, getElem?_of_mem→qzv, drop_drop→qzB, filter_sublist→qzD, getElem?_cons_succ→qzG, length_filter_le→qzP, take_left'→qzS, replicate_succ'→qz9, getElem?_range→qAd, range_succ→qAq
open List.Perm renaming refl→qyB
open Nat renaming le_refl→qyb, add_sub_cancel→qym, mod_eq_of_lt→qyp, mul_le_mul_right→qyq, pow_le_pow_right→qyx, zero_add→qyI, add_assoc→qyM, add_zero→qyP, succ_mul→qyT, le_trans→qy7, pow_succ→qzb, pow_pos→qzh, min_eq_left→qzj, pow_add→qzz, le_mul_of_pos_right→qzE, lt_of_lt_of_le→qzH, div_le_self→qzJ, add_mul→qzK, add_comm→qzU, mul_comm→qzV, pow_succ'→qz1, div_eq_of_lt→qAl
open Option renaming bind_some→qxP, map_some→qyy
open Option.some renaming injEq→qx2, inj→qzp
open Prod.mk renaming injEq→qzs
namespace Go.Proofs.YtlioijpkhffbnaaGreat
open Go SX
variable {F:Nat} {rec68:(List (Int×Int)×qAE×Int)→Option (List (Int×Int)×qAE)} {l:qAE} {least:Int} {o:List (Int×Int)} {rest:qAE} {i:Int}
def byt (l:qAE)(k:Nat):Int :=
 l.getD (8*k) 0*128+l.getD (8*k+1) 0*64+l.getD (8*k+2) 0*32+l.getD (8*k+3) 0*16+l.getD (8*k+4) 0*8+l.getD (8*k+5) 0*4+l.getD (8*k+6) 0*2+l.getD (8*k+7) 0
def pk (l:qAE):qAE:=(qy0 ((l.length+7)/8)).map (byt l)
def Bit (l:qAE):Prop:=∀ x∈l,x=0∨x=1
theorem Bit.getD {l:qAE}(h:Bit l)(i:Nat):l.getD i 0=0∨l.getD i 0=1:=by
 by_cases hi:i<l.length
 ·have:=h l[i] (qx9 hi)
  simpa[qyO,hi] using this
 ·left
  simp[qyO,qyi (Nat.le_of_not_lt hi)]
theorem qaR {l:qAE}{i:Nat}(h:l.length≤i):l.getD i 0=0:=by simp[qyO,qyi h]
theorem ql4 (l:qAE)(x:Int)(i:Nat):(l++[x]).getD i 0=if i=l.length then x else l.getD i 0:=by
 by_cases h:i=l.length
 ·subst h;simp[qyO]
 ·rw[if_neg h]
  by_cases h2:i<l.length
  ·simp[qyO,qy4 h2]
  ·rw[qaR (by simp;omega),qaR (by omega)]
theorem qhx {l:qAE}(h:Bit l)(k:Nat):0≤byt l k∧byt l k<256:=by
 have h0:=h.getD (8*k);have h1:=h.getD (8*k+1);have h2:=h.getD (8*k+2);have h3:=h.getD (8*k+3)
 have h4:=h.getD (8*k+4);have h5:=h.getD (8*k+5);have h6:=h.getD (8*k+6);have h7:=h.getD (8*k+7)
 unfold byt
 omega
theorem qke {l:qAE}{x:Int}{k:Nat}(h:k≠l.length/8):byt (l++[x]) k=byt l k:=by
 unfold byt
 simp only[ql4]
 rw[if_neg (by omega),if_neg (by omega),if_neg (by omega),if_neg (by omega),if_neg (by omega),if_neg (by omega),if_neg (by omega),if_neg (by omega)]
theorem qoO {l:qAE}{x:Int}:byt (l++[x]) (l.length/8)=byt l (l.length/8)+x*2^(7-l.length%8):=by
 obtain ⟨k,hk⟩:∃ k,k=l.length/8:=⟨_,rfl⟩
 obtain ⟨r,hr⟩:∃ r,r=l.length%8:=⟨_,rfl⟩
 have hl:l.length=8*k+r:=by omega
 have hr8:r<8:=by omega
 rw[← hk,← hr]
 unfold byt
 simp only[ql4,hl]
 have hg:∀ j,r≤j→l.getD (8*k+j) 0=0:=fun j hj=>qaR (by omega)
 have g0:=hg 0;have g1:=hg 1;have g2:=hg 2;have g3:=hg 3;have g4:=hg 4;have g5:=hg 5;have g6:=hg 6;have g7:=hg 7
 rw[qyP] at g0
 rcases (by omega:r=0∨r=1∨r=2∨r=3∨r=4∨r=5∨r=6∨r=7) with rfl | rfl | rfl | rfl | rfl | rfl | rfl | rfl
 ·rw[show (2:Int)^(7-0)=128 from by decide]
  rw[if_pos (by omega),if_neg (by omega),if_neg (by omega),if_neg (by omega),if_neg (by omega),if_neg (by omega),if_neg (by omega),if_neg (by omega)]
  have e0:=g0 (by omega)
  have e1:=g1 (by omega)
  have e2:=g2 (by omega)
  have e3:=g3 (by omega)
  have e4:=g4 (by omega)
  have e5:=g5 (by omega)
  have e6:=g6 (by omega)
  have e7:=g7 (by omega)
  omega
 ·rw[show (2:Int)^(7-1)=64 from by decide]
  rw[if_neg (by omega),if_pos (by omega),if_neg (by omega),if_neg (by omega),if_neg (by omega),if_neg (by omega),if_neg (by omega),if_neg (by omega)]
  have e1:=g1 (by omega)
  have e2:=g2 (by omega)
  have e3:=g3 (by omega)
  have e4:=g4 (by omega)
  have e5:=g5 (by omega)
  have e6:=g6 (by omega)
  have e7:=g7 (by omega)
  omega
 ·rw[show (2:Int)^(7-2)=32 from by decide]
  rw[if_neg (by omega),if_neg (by omega),if_pos (by omega),if_neg (by omega),if_neg (by omega),if_neg (by omega),if_neg (by omega),if_neg (by omega)]
  have e2:=g2 (by omega)
  have e3:=g3 (by omega)
  have e4:=g4 (by omega)
  have e5:=g5 (by omega)
  have e6:=g6 (by omega)
  have e7:=g7 (by omega)
  omega
 ·rw[show (2:Int)^(7-3)=16 from by decide]
  rw[if_neg (by omega),if_neg (by omega),if_neg (by omega),if_pos (by omega),if_neg (by omega),if_neg (by omega),if_neg (by omega),if_neg (by omega)]
  have e3:=g3 (by omega)
  have e4:=g4 (by omega)
  have e5:=g5 (by omega)
  have e6:=g6 (by omega)
  have e7:=g7 (by omega)
  omega
 ·rw[show (2:Int)^(7-4)=8 from by decide]
  rw[if_neg (by omega),if_neg (by omega),if_neg (by omega),if_neg (by omega),if_pos (by omega),if_neg (by omega),if_neg (by omega),if_neg (by omega)]
  have e4:=g4 (by omega)
  have e5:=g5 (by omega)
  have e6:=g6 (by omega)
  have e7:=g7 (by omega)
  omega
 ·rw[show (2:Int)^(7-5)=4 from by decide]
  rw[if_neg (by omega),if_neg (by omega),if_neg (by omega),if_neg (by omega),if_neg (by omega),if_pos (by omega),if_neg (by omega),if_neg (by omega)]
  have e5:=g5 (by omega)
  have e6:=g6 (by omega)
  have e7:=g7 (by omega)
  omega
 ·rw[show (2:Int)^(7-6)=2 from by decide]
  rw[if_neg (by omega),if_neg (by omega),if_neg (by omega),if_neg (by omega),if_neg (by omega),if_neg (by omega),if_pos (by omega),if_neg (by omega)]
  have e6:=g6 (by omega)
  have e7:=g7 (by omega)
  omega
 ·rw[show (2:Int)^(7-7)=1 from by decide]
  rw[if_neg (by omega),if_neg (by omega),if_neg (by omega),if_neg (by omega),if_neg (by omega),if_neg (by omega),if_neg (by omega),if_pos (by omega)]
  have e7:=g7 (by omega)
  omega
theorem irem8 (n:Nat):irem (n:Int) 8=((n%8:Nat):Int):=by
 unfold irem;rw[qzd (by omega)];omega
theorem iquo8 {n:Nat}(h:n≤9223372036854775807):iquo .i64 (n:Int) 8=((n/8:Nat):Int):=by
 unfold iquo;rw[qyN (by omega),qL (by omega) (by omega)];omega
theorem qq6 {l:qAE}:byt l (l.length/8)%2^(8-l.length%8)=0:=by
 obtain ⟨k,hk⟩:∃ k,k=l.length/8:=⟨_,rfl⟩
 obtain ⟨r,hr⟩:∃ r,r=l.length%8:=⟨_,rfl⟩
 have hl:l.length=8*k+r:=by omega
 have hr8:r<8:=by omega
 rw[← hk,← hr]
 unfold byt
 have hg:∀ j,r≤j→l.getD (8*k+j) 0=0:=fun j hj=>qaR (by omega)
 have g0:=hg 0;have g1:=hg 1;have g2:=hg 2;have g3:=hg 3;have g4:=hg 4;have g5:=hg 5;have g6:=hg 6;have g7:=hg 7
 rw[qyP] at g0
 rcases (by omega:r=0∨r=1∨r=2∨r=3∨r=4∨r=5∨r=6∨r=7) with rfl | rfl | rfl | rfl | rfl | rfl | rfl | rfl
 ·have e0:=g0 (by omega);have e1:=g1 (by omega);have e2:=g2 (by omega);have e3:=g3 (by omega);have e4:=g4 (by omega);have e5:=g5 (by omega);have e6:=g6 (by omega);have e7:=g7 (by omega)
  rw[show (2:Int)^(8-0)=256 from by decide];omega
 ·have e1:=g1 (by omega);have e2:=g2 (by omega);have e3:=g3 (by omega);have e4:=g4 (by omega);have e5:=g5 (by omega);have e6:=g6 (by omega);have e7:=g7 (by omega)
  rw[show (2:Int)^(8-1)=128 from by decide];omega
 ·have e2:=g2 (by omega);have e3:=g3 (by omega);have e4:=g4 (by omega);have e5:=g5 (by omega);have e6:=g6 (by omega);have e7:=g7 (by omega)
  rw[show (2:Int)^(8-2)=64 from by decide];omega
 ·have e3:=g3 (by omega);have e4:=g4 (by omega);have e5:=g5 (by omega);have e6:=g6 (by omega);have e7:=g7 (by omega)
  rw[show (2:Int)^(8-3)=32 from by decide];omega
 ·have e4:=g4 (by omega);have e5:=g5 (by omega);have e6:=g6 (by omega);have e7:=g7 (by omega)
  rw[show (2:Int)^(8-4)=16 from by decide];omega
 ·have e5:=g5 (by omega);have e6:=g6 (by omega);have e7:=g7 (by omega)
  rw[show (2:Int)^(8-5)=8 from by decide];omega
 ·have e6:=g6 (by omega);have e7:=g7 (by omega)
  rw[show (2:Int)^(8-6)=4 from by decide];omega
 ·have e7:=g7 (by omega)
  rw[show (2:Int)^(8-7)=2 from by decide];omega
theorem qvn {l:qAE}(h:l.length%8=0):byt l (l.length/8)=0:=by
 unfold byt
 rw[qaR (by omega),qaR (by omega),qaR (by omega),qaR (by omega),qaR (by omega),qaR (by omega),qaR (by omega),qaR (by omega)]
 rfl
theorem qo4 (k:IntKind)(a b:Int):ior k a b=ior k b a:=by unfold ior;rw[BitVec.or_comm]
def room (l:qAE):qAE:=(qy0 (l.length/8+1)).map (byt l)
theorem qrU {F:Nat}{l:qAE}(hl:Bit l){x:Int}(hx:x=0∨x=1)(hn:l.length≤1000000):yD F (l.length:Int) x (room l)=some (((l.length+1:Nat):Int),pk (l++[x])):=by
 unfold yD
 rw[iquo8 (by omega),irem8]
 have hg:(room l)[l.length/8]?=some (byt l (l.length/8)):=by simp[room]
 rw[qs,hg]
 simp only[qxP]
 have hc:decide ((0:Int)≤((l.length%8:Nat):Int))=true:=decide_eq_true (by omega)
 rw[hc]
 simp only[chk,if_true,lett,qxU]
 have hb:=qhx hl (l.length/8)
 have hr8:l.length%8<8:=Nat.mod_lt _ (by decide)
 have e1:ishl .u64 x 7=x*128:=by
  have:=qiI (a:=x) (m:=7) (by decide)
  rw[show ((7:Nat):Int)=7 from rfl] at this
  rw[this]
  rcases hx with rfl | rfl <;> decide
 have e2:iconv .u8 (x*128)=x*128:=qi4 (by omega) (by omega)
 have e3:ishr .u8 (x*128) ((l.length%8:Nat):Int)=x*2^(7-l.length%8):=by
  rw[qhz (by simp only[IntKind.bits];omega)]
  have key:∀ r:Fin 8,((0:Int)*128/2^r.val=0*2^(7-r.val))∧((1:Int)*128/2^r.val=1*2^(7-r.val)):=by decide
  have:=key ⟨l.length%8,hr8⟩
  rcases hx with rfl | rfl
  ·exact this.1
  ·exact this.2
 have key2:∀ r:Fin 8,(1:Int)≤2^(7-r.val)∧(2:Int)^(8-r.val)=2*2^(7-r.val)∧(2:Int)^(7-r.val)≤128∧(256:Int)%2^(8-r.val)=0∧(2:Int)^(8-r.val)≤256:=by decide
 have hk2:=key2 ⟨l.length%8,hr8⟩
 simp only at hk2
 have hat:=qoO (l:=l) (x:=x)
 have hb2:Bit (l++[x]):=by
  intro y hy
  rcases qxV.1 hy with h | h
  ·exact hl y h
  ·simp at h;subst h;exact hx
 have hbb:=qhx hb2 (l.length/8)
 have e4:ior .u8 (byt l (l.length/8)) (x*2^(7-l.length%8))=byt (l++[x]) (l.length/8):=by
  rw[qo4,qjV (m:=8-l.length%8) ?_ ?_ hb.1 qq6 rfl ?_]
  ·rw[hat];omega
  ·rcases hx with rfl | rfl <;> omega
  ·rcases hx with rfl | rfl <;> omega
  ·simp only[IntKind.bits]
   rw[show (2:Int)^8=256 from by decide]
   omega
 rw[e1,e2,e3,e4,qA (by omega) (by omega)]
 congr 2
 unfold room pk
 have hlen:((l++[x]).length+7)/8=l.length/8+1:=by simp;omega
 rw[hlen]
 apply qzc
 intro k
 rw[List.getElem?_set]
 by_cases hk:l.length/8=k
 ·subst hk;simp
 ·rw[if_neg hk]
  simp only[qy2]
  by_cases h3:k<l.length/8+1
  ·rw[qAd h3]
   simp only[qyy]
   rw[qke (fun e=>hk e.symm)]
  ·rw[qyi (by simpa using h3)]
   rfl
theorem qtb {F:Nat}{l:qAE}(hl:Bit l){x:Int}(hx:x=0∨x=1)(hn:l.length≤1000000):jy F (l.length:Int) (pk l) x=some (((l.length+1:Nat):Int),pk (l++[x])):=by
 unfold jy
 rw[irem8]
 by_cases h:l.length%8=0
 ·have h1:((((l.length%8:Nat):Int):Int) == 0)=true:=by simp[h]
  simp only[h1,if_true]
  rw[qD (by simp[pk];omega)]
  simp only[qxP]
  have:pk l++[0]=room l:=by
   unfold pk room
   rw[show (l.length+7)/8=l.length/8 from by omega,qAq,qzi]
   simp[qvn h]
  rw[this]
  exact qrU hl hx hn
 ·have h1:((((l.length%8:Nat):Int):Int) == 0)=false:=by simp;omega
  simp only[h1,qxZ,if_false]
  have:pk l=room l:=by
   unfold pk room
   rw[show (l.length+7)/8=l.length/8+1 from by omega]
  rw[this]
  exact qrU hl hx hn
def bitAt (b:qAE)(i:Nat):Int:=b.getD (i/8) 0/2^(7-i%8)%2
def bl (b:qAE)(n:Nat):qAE:=(qy0 n).map (bitAt b)
theorem qi7 (b:qAE)(i:Nat):bitAt b i=0∨bitAt b i=1:=by unfold bitAt;omega
theorem qp7 (b:qAE)(n:Nat):Bit (bl b n):=by
 intro x hx
 obtain ⟨i,_,rfl⟩:=List.mem_map.1 hx
 exact qi7 b i
theorem qal (b:qAE)(n:Nat):(bl b n).length=n:=by simp[bl]
def U8s (l:qAE):Prop:=∀ n∈l,0≤n∧n<256
theorem qs5 {F:Nat}{n:Int}{b:qAE}(hb:U8s b){i:Nat}(hi:i/8<b.length)(hm:i≤1000000):qcx F n b (i:Int)=some (bitAt b i):=by
 unfold qcx
 rw[iquo8 (by omega),irem8,qs]
 have hg:b[i/8]?=some b[i/8]:=by simp[hi]
 rw[hg]
 simp only[qxP]
 have e1:isub .i64 7 ((i%8:Nat):Int)=((7-i%8:Nat):Int):=by rw[qG (by omega) (by omega)];omega
 rw[e1]
 have hc:decide ((0:Int)≤((7-i%8:Nat):Int))=true:=decide_eq_true (by omega)
 rw[hc]
 simp only[chk,if_true,lett]
 have hx:=hb b[i/8] (qx9 hi)
 rw[qhz (by simp only[IntKind.bits];omega)]
 have hp:(1:Int)≤2^(7-i%8):=by
  have key:∀ r:Fin 8,(1:Int)≤2^(7-r.val):=by decide
  exact key ⟨i%8,Nat.mod_lt _ (by decide)⟩
 have h1:0≤b[i/8]/2^(7-i%8):=Int.ediv_nonneg hx.1 (by omega)
 have h2:b[i/8]/2^(7-i%8)≤b[i/8]:=Int.ediv_le_self _ hx.1
 have e2:iconv .u64 (b[i/8]/2^(7-i%8))=b[i/8]/2^(7-i%8):=zg h1 (by omega)
 rw[e2]
 have e3:=qgv (k:=.u64) (a:=b[i/8]/2^(7-i%8)) (m:=1) h1 (by simp only[IntKind.bits];rw[show (2:Int)^64=18446744073709551616 from by decide];omega) (by decide) rfl
 rw[show ((2^1-1:Nat):Int)=1 from rfl,show (2:Int)^1=2 from rfl] at e3
 rw[e3]
 unfold bitAt
 simp[qyO,hg]
theorem qvk (b:qAE)(n:Nat):bl b (n+1)=bl b n++[bitAt b n]:=by simp[bl,qAq]
theorem qph {F:Nat}{n:Int}{b:qAE}(hb:U8s b){yy:(Int×qAE)→Int→Option ((Int×qAE) ⊕ Empty)}(hy:∀ (l:qAE) x,Bit l→(x=0∨x=1)→l.length≤100000→yy ((l.length:Int),pk l) x=some (.inl (((l.length+1:Nat):Int),pk (l++[x])))){to:Nat}(ht:to≤8*b.length)(hm:to≤10000) :
  ∀ (k i:Nat) (l:qAE),to<k+i→i≤to→Bit l→l.length+(to-i)≤100000 →
   kh F yy (to:Int) n b k ((i:Int),((l.length:Int),pk l))=some (.inl (((l.length+(to-i):Nat):Int),pk (l++(bl b to).drop i)))
 | 0,i,l,h,hi,_,_=>by omega
 | k+1,i,l,h,hi,hl,hc=>by
  have hstep:kh F yy (to:Int) n b (k+1) ((i:Int),((l.length:Int),pk l))=qaG F yy (to:Int) n b (kh F yy (to:Int) n b k) (i:Int) ((l.length:Int),pk l):=rfl
  rw[hstep]
  unfold qaG
  by_cases hlt:i<to
  ·have h1:(i:Int)<(to:Int):=by omega
   simp only[h1,decide_true,if_true]
   rw[qs5 hb (by omega) (by omega)]
   simp only[qxP]
   have hx:=qi7 b i
   rw[hy l _ hl hx (by omega)]
   simp only[qxP,Sum.elim_inl]
   rw[qA (by omega) (by omega),show (i:Int)+1=((i+1:Nat):Int) from by omega]
   have hl2:Bit (l++[bitAt b i]):=by
    intro y hy2
    rcases qxV.1 hy2 with h | h
    ·exact hl y h
    ·simp at h;subst h;exact hx
   have:=qph (F:=F) (n:=n) hb hy ht hm k (i+1) (l++[bitAt b i]) (by omega) (by omega) hl2 (by simp;omega)
   rw[show (l++[bitAt b i]).length=l.length+1 from by simp] at this
   rw[this]
   have hd:(bl b to).drop i=bitAt b i::(bl b to).drop (i+1):=by
    rw[qxT (by rw[qal];exact hlt)]
    congr 1
    simp[bl]
   rw[hd,qxS,show l.length+1+(to-(i+1))=l.length+(to-i) from by omega]
   rfl
  ·have h1:¬ (i:Int)<(to:Int):=by omega
   simp only[h1,decide_false,qxZ,if_false]
   rw[qxW (by rw[qal];omega),qyh,show l.length+(to-i)=l.length from by omega]
structure Ok (n:Nat) (b:qAE):Prop where
 max:n≤8192
 len:b.length=(n+7)/8
 low:n%8≠0→b.getD (n/8) 0%2^(8-n%8)=0
theorem qvj {b:qAE}{n i:Nat}:(bl b n).getD i 0=if i<n then bitAt b i else 0:=by
 by_cases h:i<n
 ·rw[if_pos h];simp[bl,qyO,h]
 ·rw[if_neg h];exact qaR (by rw[qal];omega)
theorem bits8 {x:Int}(h0:0≤x)(h1:x<256):x/128%2*128+x/64%2*64+x/32%2*32+x/16%2*16+x/8%2*8+x/4%2*4+x/2%2*2+x/1%2=x:=by omega
theorem qnm (b:qAE)(k:Nat):bitAt b (8*k)=b.getD k 0/128%2∧bitAt b (8*k+1)=b.getD k 0/64%2∧bitAt b (8*k+2)=b.getD k 0/32%2∧bitAt b (8*k+3)=b.getD k 0/16%2 ∧
  bitAt b (8*k+4)=b.getD k 0/8%2∧bitAt b (8*k+5)=b.getD k 0/4%2∧bitAt b (8*k+6)=b.getD k 0/2%2∧bitAt b (8*k+7)=b.getD k 0/1%2:=by
 unfold bitAt
 rw[show 8*k/8=k from by omega,show (8*k+1)/8=k from by omega,show (8*k+2)/8=k from by omega,show (8*k+3)/8=k from by omega,show (8*k+4)/8=k from by omega,show (8*k+5)/8=k from by omega,show (8*k+6)/8=k from by omega,show (8*k+7)/8=k from by omega,
  show 8*k%8=0 from by omega,show (8*k+1)%8=1 from by omega,show (8*k+2)%8=2 from by omega,show (8*k+3)%8=3 from by omega,show (8*k+4)%8=4 from by omega,show (8*k+5)%8=5 from by omega,show (8*k+6)%8=6 from by omega,show (8*k+7)%8=7 from by omega]
 exact ⟨rfl,rfl,rfl,rfl,rfl,rfl,rfl,rfl⟩
theorem qwR {n:Nat}{b:qAE}(hb:U8s b)(h:Ok n b){k:Nat}(hk:k<(n+7)/8):byt (bl b n) k=b.getD k 0:=by
 have hx:0≤b.getD k 0∧b.getD k 0<256:=by
  have hlt:k<b.length:=by rw[h.len];exact hk
  have:=hb b[k] (qx9 hlt)
  simpa[qyO,hlt] using this
 obtain ⟨c0,c1,c2,c3,c4,c5,c6,c7⟩:=qnm b k
 unfold byt
 simp only[qvj]
 rw[c0,c1,c2,c3,c4,c5,c6,c7]
 by_cases hf:8*k+8≤n
 ·rw[if_pos (by omega),if_pos (by omega),if_pos (by omega),if_pos (by omega),if_pos (by omega),if_pos (by omega),if_pos (by omega),if_pos (by omega)]
  exact bits8 hx.1 hx.2
 ·have hkn:n/8=k:=by omega
  obtain ⟨r,hr⟩:∃ r,r=n%8:=⟨_,rfl⟩
  have hn:n=8*k+r:=by omega
  have hlow:=h.low (by omega)
  rw[hkn,← hr] at hlow
  generalize b.getD k 0=x at hx hlow
  rcases (by omega:r=1∨r=2∨r=3∨r=4∨r=5∨r=6∨r=7) with rfl | rfl | rfl | rfl | rfl | rfl | rfl
  ·rw[if_pos (by omega),if_neg (by omega),if_neg (by omega),if_neg (by omega),if_neg (by omega),if_neg (by omega),if_neg (by omega),if_neg (by omega)]
   rw[show (2:Int)^(8-1)=128 from by decide] at hlow
   omega
  ·rw[if_pos (by omega),if_pos (by omega),if_neg (by omega),if_neg (by omega),if_neg (by omega),if_neg (by omega),if_neg (by omega),if_neg (by omega)]
   rw[show (2:Int)^(8-2)=64 from by decide] at hlow
   omega
  ·rw[if_pos (by omega),if_pos (by omega),if_pos (by omega),if_neg (by omega),if_neg (by omega),if_neg (by omega),if_neg (by omega),if_neg (by omega)]
   rw[show (2:Int)^(8-3)=32 from by decide] at hlow
   omega
  ·rw[if_pos (by omega),if_pos (by omega),if_pos (by omega),if_pos (by omega),if_neg (by omega),if_neg (by omega),if_neg (by omega),if_neg (by omega)]
   rw[show (2:Int)^(8-4)=16 from by decide] at hlow
   omega
  ·rw[if_pos (by omega),if_pos (by omega),if_pos (by omega),if_pos (by omega),if_pos (by omega),if_neg (by omega),if_neg (by omega),if_neg (by omega)]
   rw[show (2:Int)^(8-5)=8 from by decide] at hlow
   omega
  ·rw[if_pos (by omega),if_pos (by omega),if_pos (by omega),if_pos (by omega),if_pos (by omega),if_pos (by omega),if_neg (by omega),if_neg (by omega)]
   rw[show (2:Int)^(8-6)=4 from by decide] at hlow
   omega
  ·rw[if_pos (by omega),if_pos (by omega),if_pos (by omega),if_pos (by omega),if_pos (by omega),if_pos (by omega),if_pos (by omega),if_neg (by omega)]
   rw[show (2:Int)^(8-7)=2 from by decide] at hlow
   omega
theorem qt0 {n:Nat}{b:qAE}(hb:U8s b)(h:Ok n b):pk (bl b n)=b:=by
 unfold pk
 rw[qal]
 apply qzc
 intro k
 by_cases hk:k<(n+7)/8
 ·rw[qy2,qAd hk]
  simp only[qyy]
  rw[qwR hb h hk]
  have hlt:k<b.length:=by rw[h.len];exact hk
  simp[qyO,hlt]
 ·rw[qyi (by simpa using hk),qyi (by rw[h.len];omega)]
def chkOf (n:Int)(b:qAE):Int :=
 if n<0∨8192<n then 3 else if (b.length:Int)≠(n+7)/8 then 1 else if n%8≠0∧b.getD (n.toNat/8) 0%2^(8-n.toNat%8)≠0 then 1 else 0
theorem qti {n:Int}{b:qAE}(h:chkOf n b=0):∃ m:Nat,n=m∧Ok m b:=by
 unfold chkOf at h
 split at h
 ·simp at h
 ·rename_i h1
  split at h
  ·simp at h
  ·rename_i h2
   split at h
   ·simp at h
   ·rename_i h3
    obtain ⟨m,rfl⟩:=qx0 (show 0≤n by omega)
    refine ⟨m,rfl,by omega,by omega,fun hm=>?_⟩
    simp only[qxU] at h3
    by_cases hz:b.getD (m/8) 0%2^(8-m%8)=0
    ·exact hz
    ·exact absurd ⟨by omega,hz⟩ h3
theorem qoP {F:Nat}{n:Int}{b:qAE}(hb:U8s b)(h1:-9223372036854775808≤n)(h2:n<9223372036854775808)(hm:b.length≤9223372036854775807):qdI F n b=some (chkOf n b):=by
 unfold qdI chkOf
 by_cases c1:n<0∨8192<n
 ·have:(decide (n<0) || decide (8192<n))=true:=by simpa using c1
  rw[if_pos this,if_pos c1]
 ·have:(decide (n<0) || decide (8192<n))=false:=by simpa using c1
  rw[this,if_neg c1]
  simp only[qxZ,if_false]
  obtain ⟨m,rfl⟩:=qx0 (show 0≤n by omega)
  have e1:iquo .i64 (iadd .i64 (m:Int) 7) 8=((m:Int)+7)/8:=by
   rw[qA (by omega) (by omega),show (m:Int)+7=((m+7:Nat):Int) from by omega,iquo8 (by omega)]
   omega
  rw[e1,irem8]
  by_cases c2:(b.length:Int)≠((m:Int)+7)/8
  ·have:((b.length:Int) != ((m:Int)+7)/8)=true:=by simpa using c2
   rw[if_pos this,if_pos c2]
  ·have:((b.length:Int) != ((m:Int)+7)/8)=false:=by simpa using c2
   rw[this,if_neg c2]
   simp only[qxZ,if_false]
   by_cases c3:m%8=0
   ·have:((((m%8:Nat):Int)) != 0)=false:=by simp[c3]
    have hn:¬ ((m:Int)%8≠0∧b.getD ((m:Int).toNat/8) 0%2^(8-(m:Int).toNat%8)≠0):=fun h=>h.1 (by omega)
    rw[this,if_neg hn]
    simp[qaZ]
   ·have:((((m%8:Nat):Int)) != 0)=true:=by simp;omega
    rw[this]
    simp only[if_true]
    have hlen:b.length=m/8+1:=by omega
    have e2:isub .i64 (b.length:Int) 1=((m/8:Nat):Int):=by rw[qG (by omega) (by omega)];omega
    have hg:b[m/8]?=some b[m/8]:=by simp[hlen]
    rw[e2,qs,hg]
    simp only[qxP]
    have hc:decide ((0:Int)≤((m%8:Nat):Int))=true:=decide_eq_true (by omega)
    rw[hc]
    simp only[chk,if_true]
    have hx:=hb b[m/8] (qx9 (by omega))
    have hgd:b.getD (m/8) 0=b[m/8]:=by simp[qyO,hg]
    rw[qxU,hgd]
    generalize b[m/8]=x at hx
    have e3:(ishl .u8 x ((m%8:Nat):Int) != 0)=decide (x%2^(8-m%8)≠0):=by
     have key:ishl .u8 x ((m%8:Nat):Int)=(x*2^(m%8))%256:=by
      unfold ishl
      have h:min (((m%8:Nat):Int).toNat) (IntKind.bits .u8)=m%8:=by simp[IntKind.bits];omega
      rw[h,qjE]
     rw[key]
     rcases (by omega:m%8=1∨m%8=2∨m%8=3∨m%8=4∨m%8=5∨m%8=6∨m%8=7) with h | h | h | h | h | h | h <;> rw[h]
     ·rw[show (2:Int)^1=2 from rfl,show (2:Int)^(8-1)=128 from by decide];by_cases hz:x%128=0 <;> simp[hz] <;> omega
     ·rw[show (2:Int)^2=4 from rfl,show (2:Int)^(8-2)=64 from by decide];by_cases hz:x%64=0 <;> simp[hz] <;> omega
     ·rw[show (2:Int)^3=8 from rfl,show (2:Int)^(8-3)=32 from by decide];by_cases hz:x%32=0 <;> simp[hz] <;> omega
     ·rw[show (2:Int)^4=16 from by decide];try rw[show (2:Int)^(8-4)=16 from by decide]
      by_cases hz:x%16=0 <;> simp[hz] <;> omega
     ·rw[show (2:Int)^5=32 from by decide,show (2:Int)^(8-5)=8 from by decide];by_cases hz:x%8=0 <;> simp[hz] <;> omega
     ·rw[show (2:Int)^6=64 from by decide,show (2:Int)^(8-6)=4 from by decide];by_cases hz:x%4=0 <;> simp[hz] <;> omega
     ·rw[show (2:Int)^7=128 from by decide,show (2:Int)^(8-7)=2 from by decide];by_cases hz:x%2=0 <;> simp[hz] <;> omega
    rw[e3]
    unfold qaZ
    by_cases hz:x%2^(8-m%8)=0
    ·rw[if_neg (by simp[hz]),if_neg (by simp[hz])]
    ·rw[if_pos (by simp[hz]),if_pos ⟨by omega,hz⟩]
theorem qoT {F:Nat}{x:qAE}(h:x.length≤1000000):kH F x=some x:=by
 unfold kH
 rw[qD (by simp;omega)]
 rfl
theorem qtR {F:Nat}{n:Int}{b:qAE}(h:b.length≤1000000):qft F n b=some (n,b):=by
 unfold qft
 rw[qoT h]
 rfl
theorem qnn {F:Nat}(hF:20000≤F){n m:Nat}{a b:qAE}(ha:U8s a)(hb:U8s b)(oa:Ok n a)(ob:Ok m b):qat F n a m b=some (((n+m:Nat):Int),pk (bl a n++bl b m)):=by
 unfold qat
 have hal:a.length≤1000000:=by rw[oa.len];have:=oa.max;omega
 rw[qtR hal]
 simp only[qxP,qgf,qe0]
 have hm:=ob.max
 have hn:=oa.max
 have:=qph (F:=F) (n:=(m:Int)) hb (yy:=fun (p:Int×qAE) (x53:Int)=>qbT F p.1 p.2 x53) (fun l x hl hx hlen=>by
  simp only[qbT]
  rw[qtb hl hx (by omega)]
  rfl) (to:=m) (by rw[ob.len];omega) (by omega) F 0 (bl a n) (by omega) (by omega) (qp7 a n) (by rw[qal];omega)
 rw[qal,qt0 ha oa,qx8,Nat.sub_zero] at this
 rw[show ((0:Nat):Int)=0 from rfl] at this
 have h2:kh F (fun (x:Int×qAE) (x53:Int)=>match x with | (x45,x48)=>qbT F x45 x48 x53) (m:Int) (m:Int) b F (0,((n:Int),a))=some (.inl (((n+m:Nat):Int),pk (bl a n++bl b m))):=this
 rw[h2]
 rfl
def I64 (n:Int):Prop:=-9223372036854775808≤n∧n<9223372036854775808
theorem qrH {l:qAE}{k:Nat}(hk:k<(l.length+7)/8):(pk l).getD k 0=byt l k:=by
 unfold pk
 simp[qyO,hk]
theorem qf2 {l:qAE}(h:Bit l):U8s (pk l):=by
 intro x hx
 obtain ⟨k,_,rfl⟩:=List.mem_map.1 hx
 exact qhx h k
theorem qhg (l:qAE):(pk l).length=(l.length+7)/8:=by simp[pk]
theorem qiM {l:qAE}(hm:l.length≤8192):Ok l.length (pk l) where
 max:=hm
 len:=qhg l
 low:=fun h=>by
  rw[qrH (by omega)]
  exact qq6
theorem qoK {l:qAE}(h:Bit l){i:Nat}(hi:i<l.length):bitAt (pk l) i=l.getD i 0:=by
 obtain ⟨k,hk⟩:∃ k,k=i/8:=⟨_,rfl⟩
 obtain ⟨r,hr⟩:∃ r,r=i%8:=⟨_,rfl⟩
 have hl:i=8*k+r:=by omega
 have hr8:r<8:=by omega
 obtain ⟨c0,c1,c2,c3,c4,c5,c6,c7⟩:=qnm (pk l) k
 have hb:(pk l).getD k 0=byt l k:=qrH (by omega)
 rw[hb] at c0 c1 c2 c3 c4 c5 c6 c7
 have hbd:∀ q,0≤l.getD q 0∧l.getD q 0≤1:=fun q=>by have:=h.getD q;omega
 have h0:=hbd (8*k);have h1:=hbd (8*k+1);have h2:=hbd (8*k+2);have h3:=hbd (8*k+3)
 have h4:=hbd (8*k+4);have h5:=hbd (8*k+5);have h6:=hbd (8*k+6);have h7:=hbd (8*k+7)
 clear hbd hb
 unfold byt at c0 c1 c2 c3 c4 c5 c6 c7
 rcases (by omega:r=0∨r=1∨r=2∨r=3∨r=4∨r=5∨r=6∨r=7) with rfl | rfl | rfl | rfl | rfl | rfl | rfl | rfl
 ·rw[hl,qyP,c0];clear c0 c1 c2 c3 c4 c5 c6 c7;generalize l.getD (8*k) 0=y0 at *;generalize l.getD (8*k+1) 0=y1 at *;generalize l.getD (8*k+2) 0=y2 at *;generalize l.getD (8*k+3) 0=y3 at *;generalize l.getD (8*k+4) 0=y4 at *;generalize l.getD (8*k+5) 0=y5 at *;generalize l.getD (8*k+6) 0=y6 at *;generalize l.getD (8*k+7) 0=y7 at *;clear h hi hl hr hk hr8;omega
 ·rw[hl,c1];clear c0 c1 c2 c3 c4 c5 c6 c7;generalize l.getD (8*k) 0=y0 at *;generalize l.getD (8*k+1) 0=y1 at *;generalize l.getD (8*k+2) 0=y2 at *;generalize l.getD (8*k+3) 0=y3 at *;generalize l.getD (8*k+4) 0=y4 at *;generalize l.getD (8*k+5) 0=y5 at *;generalize l.getD (8*k+6) 0=y6 at *;generalize l.getD (8*k+7) 0=y7 at *;clear h hi hl hr hk hr8;omega
 ·rw[hl,c2];clear c0 c1 c2 c3 c4 c5 c6 c7;generalize l.getD (8*k) 0=y0 at *;generalize l.getD (8*k+1) 0=y1 at *;generalize l.getD (8*k+2) 0=y2 at *;generalize l.getD (8*k+3) 0=y3 at *;generalize l.getD (8*k+4) 0=y4 at *;generalize l.getD (8*k+5) 0=y5 at *;generalize l.getD (8*k+6) 0=y6 at *;generalize l.getD (8*k+7) 0=y7 at *;clear h hi hl hr hk hr8;omega
 ·rw[hl,c3];clear c0 c1 c2 c3 c4 c5 c6 c7;generalize l.getD (8*k) 0=y0 at *;generalize l.getD (8*k+1) 0=y1 at *;generalize l.getD (8*k+2) 0=y2 at *;generalize l.getD (8*k+3) 0=y3 at *;generalize l.getD (8*k+4) 0=y4 at *;generalize l.getD (8*k+5) 0=y5 at *;generalize l.getD (8*k+6) 0=y6 at *;generalize l.getD (8*k+7) 0=y7 at *;clear h hi hl hr hk hr8;omega
 ·rw[hl,c4];clear c0 c1 c2 c3 c4 c5 c6 c7;generalize l.getD (8*k) 0=y0 at *;generalize l.getD (8*k+1) 0=y1 at *;generalize l.getD (8*k+2) 0=y2 at *;generalize l.getD (8*k+3) 0=y3 at *;generalize l.getD (8*k+4) 0=y4 at *;generalize l.getD (8*k+5) 0=y5 at *;generalize l.getD (8*k+6) 0=y6 at *;generalize l.getD (8*k+7) 0=y7 at *;clear h hi hl hr hk hr8;omega
 ·rw[hl,c5];clear c0 c1 c2 c3 c4 c5 c6 c7;generalize l.getD (8*k) 0=y0 at *;generalize l.getD (8*k+1) 0=y1 at *;generalize l.getD (8*k+2) 0=y2 at *;generalize l.getD (8*k+3) 0=y3 at *;generalize l.getD (8*k+4) 0=y4 at *;generalize l.getD (8*k+5) 0=y5 at *;generalize l.getD (8*k+6) 0=y6 at *;generalize l.getD (8*k+7) 0=y7 at *;clear h hi hl hr hk hr8;omega
 ·rw[hl,c6];clear c0 c1 c2 c3 c4 c5 c6 c7;generalize l.getD (8*k) 0=y0 at *;generalize l.getD (8*k+1) 0=y1 at *;generalize l.getD (8*k+2) 0=y2 at *;generalize l.getD (8*k+3) 0=y3 at *;generalize l.getD (8*k+4) 0=y4 at *;generalize l.getD (8*k+5) 0=y5 at *;generalize l.getD (8*k+6) 0=y6 at *;generalize l.getD (8*k+7) 0=y7 at *;clear h hi hl hr hk hr8;omega
 ·rw[hl,c7];clear c0 c1 c2 c3 c4 c5 c6 c7;generalize l.getD (8*k) 0=y0 at *;generalize l.getD (8*k+1) 0=y1 at *;generalize l.getD (8*k+2) 0=y2 at *;generalize l.getD (8*k+3) 0=y3 at *;generalize l.getD (8*k+4) 0=y4 at *;generalize l.getD (8*k+5) 0=y5 at *;generalize l.getD (8*k+6) 0=y6 at *;generalize l.getD (8*k+7) 0=y7 at *;clear h hi hl hr hk hr8;omega
theorem qcC {l:qAE}(h:Bit l):bl (pk l) l.length=l:=by
 apply qzc
 intro i
 by_cases hi:i<l.length
 ·have h1:(bl (pk l) l.length)[i]?=some (bitAt (pk l) i):=by simp[bl,hi]
  rw[h1,qoK h hi]
  simp[qyO,hi]
 ·rw[qyi (by rw[qal];omega),qyi (by omega)]
theorem quw (F:Nat){xs ys:qAE}(hl:xs.length=ys.length)(hm:xs.length≤9223372036854775807):∀ (k i:Nat),xs.length<k+i→i≤xs.length →
  vA F xs ys k (i:Int)=some (decide (xs.drop i=ys.drop i))
 | 0,i,h,_=>by omega
 | k+1,i,h,hi=>by
  show qcp F xs ys (vA F xs ys k) i=_
  unfold qcp
  by_cases hlt:i<xs.length
  ·have hlt':(i:Int)<(xs.length:Int):=by omega
   have hlt2:i<ys.length:=by omega
   have hg:xs[i]?=some xs[i]:=by simp[hlt]
   have hg2:ys[i]?=some ys[i]:=by simp[hlt2]
   simp only[hlt',decide_true,if_true,qs,hg,hg2,qxP]
   have e:(xs.drop i=ys.drop i)↔(xs[i]=ys[i]∧xs.drop (i+1)=ys.drop (i+1)):=by
    rw[qxT hlt,qxT hlt2,List.cons.injEq]
   simp only[e]
   by_cases he:xs[i]=ys[i]
   ·simp only[he,bne_self_eq_false,qxZ,if_false,true_and]
    rw[qA (by omega) (by omega),show (i:Int)+1=((i+1:Nat):Int) from by omega,quw F hl hm k (i+1) (by omega) (by omega)]
   ·have:(xs[i] != ys[i])=true:=by simpa using he
    simp only[this,if_true,he,false_and,decide_false]
  ·have hlt':¬ (i:Int)<(xs.length:Int):=by omega
   simp only[hlt',decide_false,qxZ,if_false]
   rw[qxW (by omega),qxW (by omega)]
   rfl
theorem qiU {F:Nat}{xs ys:qAE}(hF:xs.length<F)(hm:xs.length≤9223372036854775807):vp F xs ys=some (decide (xs=ys)):=by
 unfold vp
 by_cases hl:xs.length=ys.length
 ·have:(((xs.length:Int):Int) != (ys.length:Int))=false:=by simp[hl]
  simp only[this,qxZ,if_false]
  have:=quw F hl hm F 0 (by omega) (by omega)
  simpa using this
 ·have:(((xs.length:Int):Int) != (ys.length:Int))=true:=by simp;omega
  simp only[this,if_true]
  have:xs≠ys:=fun e=>hl (by rw[e])
  simp[this]
theorem qoR {n:Nat}{b:qAE}(h:Ok n b):chkOf (n:Int) b=0:=by
 unfold chkOf
 have:=h.max
 have:=h.len
 rw[if_neg (by omega),if_neg (by omega),if_neg]
 rintro ⟨h1,h2⟩
 rw[qxU] at h2
 exact h2 (h.low (by omega))
theorem qvl {b:qAE}{n m:Nat}(h:n≤m):(bl b m).take n=bl b n:=by
 unfold bl
 rw[← List.map_take,List.take_range,qzj h]
theorem vX {l k:qAE}(h:Bit l)(h2:Bit k):Bit (l++k):=by
 intro x hx
 rcases qxV.1 hx with h3 | h3
 ·exact h x h3
 ·exact h2 x h3
theorem two64:(2:Nat)^64=18446744073709551616:=by decide
theorem qnF {n k:Nat}(hn:n<18446744073709551616):ishr .u64 (n:Int) (k:Int)=((n/2^k:Nat):Int):=by
 unfold ishr
 rw[Int.fdiv_eq_ediv_of_nonneg _ (by exact_mod_cast Nat.zero_le _),qxU]
 simp only[IntKind.bits]
 by_cases h:k≤64
 ·rw[qzj h];norm_cast
 ·rw[Nat.min_eq_right (by omega)]
  have h1:n/2^64=0:=qAl (by omega)
  have h2:n/2^k=0:=qAl (qzH hn (by rw[← two64];exact qyx (by decide) (by omega)))
  rw[h2]
  have:((n:Int)/2^64)=((n/2^64:Nat):Int):=by norm_cast
  rw[this,h1]
theorem qvx {n:Nat}(hn:n<18446744073709551616):iand .u64 (n:Int) 1=((n%2:Nat):Int):=by
 have e:=qgv (k:=.u64) (a:=(n:Int)) (m:=1) (by omega) (by simp only[IntKind.bits];rw[show (2:Int)^64=18446744073709551616 from by decide];omega) (by decide) rfl
 rw[show ((2^1-1:Nat):Int)=1 from rfl,show (2:Int)^1=2 from rfl] at e
 rw[e];omega
theorem qik {n k:Nat}(hk:k≤64):ishl .u64 (n:Int) (k:Int)=((n*2^k%18446744073709551616:Nat):Int):=by
 rw[qiI hk,Int.natCast_emod,qzo,Int.natCast_pow];rfl
theorem qxy {a b m:Nat}(ha:a<2^m)(hb:b%2^m=0)(h:a+b<18446744073709551616):ior .u64 (b:Int) (a:Int)=((b+a:Nat):Int):=by
 rw[qo4,qjV (m:=m) (by omega) (by exact_mod_cast ha) (by omega) (by exact_mod_cast hb) rfl (by simp only[IntKind.bits];rw[show (2:Int)^64=18446744073709551616 from by decide];omega)]
 omega
theorem jN {a b:Nat}(h:a+b<9223372036854775808):iadd .i64 (a:Int) (b:Int)=((a+b:Nat):Int):=by rw[qA (by omega) (by omega)];omega
theorem qw {a:Nat}(h:a+1<9223372036854775808):iadd .i64 (a:Int) 1=((a+1:Nat):Int):=by rw[qA (by omega) (by omega)];omega
theorem qqg {a b:Nat}(h:b≤a)(h2:a<9223372036854775808):isub .i64 (a:Int) (b:Int)=((a-b:Nat):Int):=by rw[qG (by omega) (by omega)];omega
theorem jZ {a:Nat}(h:1≤a)(h2:a<9223372036854775808):isub .i64 (a:Int) 1=((a-1:Nat):Int):=by rw[qG (by omega) (by omega)];omega
def nb (n:Nat):Nat→qAE
 | 0=>[]
 | w+1=>((n/2^w%2:Nat):Int)::nb n w
theorem qeh (n:Nat):∀ w,(nb n w).length=w
 | 0=>rfl
 | w+1=>by simp[nb,qeh n w]
theorem qqp (n:Nat):∀ w,Bit (nb n w)
 | 0=>by intro x hx;simp[nb] at hx
 | w+1=>by
  intro x hx
  rcases qx1.1 hx with rfl | h
  ·omega
  ·exact qqp n w x h
def bv (l:qAE):Nat:=l.foldl (fun n b=>2*n+b.toNat) 0
theorem qvm (l:qAE):∀ m,l.foldl (fun n b=>2*n+b.toNat) m=m*2^l.length+bv l:=by
 induction l with
 | nil=>intro m;simp[bv]
 | cons x l ih =>
  intro m
  show l.foldl _ _=_
  rw[ih]
  show _=_+l.foldl _ _
  rw[ih,qxY,qzb]
  generalize 2^l.length=p
  rw[qzK,qzK]
  have:2*m*p=m*(p*2):=by rw[qzV 2 m,Nat.mul_assoc,qzV 2 p]
  omega
theorem qkc (l k:qAE):bv (l++k)=bv l*2^k.length+bv k:=by
 unfold bv
 rw[List.foldl_append,qvm k];rfl
theorem qno (x:Int)(l:qAE):bv (x::l)=x.toNat*2^l.length+bv l:=by
 have:=qkc [x] l
 simpa[bv] using this
theorem qkd {l:qAE}(h:Bit l):bv l<2^l.length:=by
 induction l with
 | nil=>simp[bv]
 | cons x l ih =>
  have h1:=ih (fun y hy=>h y (qx7 _ hy))
  rw[qno,qxY,qzb]
  rcases h x qyf with rfl | rfl
  ·simp;omega
  ·simp;omega
theorem qoN (n:Nat):∀ w,bv (nb n w)=n%2^w
 | 0=>by simp[nb,bv,Nat.mod_one]
 | w+1=>by
  rw[nb,qno,qeh,qoN n w,qxU,qzb,Nat.mod_mul,qzV,qzU]
theorem qtP (n a:Nat):∀ b,nb n (b+a)=nb (n/2^a) b++nb n a
 | 0=>by simp[nb]
 | b+1=>by
  rw[show b+1+a=(b+a)+1 from by omega,nb,qtP n a b,nb,qyS]
  congr 3
  rw[Nat.div_div_eq_div_mul,← qzz,qzU]
theorem qnJ (n w:Nat):nb n (w+1)=nb (n/2) w++[((n%2:Nat):Int)]:=by
 have:=qtP n 1 w
 simpa[nb] using this
theorem qpc {F:Nat}{n:Nat}(hn:n<18446744073709551616):∀ (w k:Nat) (l:qAE),w<k→Bit l→l.length+w≤100000 →
  kd F (n:Int) k ((w:Int)-1,(l.length:Int),pk l)=some (((l.length+w:Nat):Int),pk (l++nb n w))
 | _,0,_,h,_,_=>by omega
 | 0,k+1,l,_,_,_=>by
  show kb F (n:Int) _ (((0:Nat):Int)-1) (l.length:Int) (pk l)=_
  unfold kb
  rw[if_neg (by simp)]
  simp[nb]
 | w+1,k+1,l,h,hl,hm=>by
  show kb F (n:Int) (kd F (n:Int) k) (((w+1:Nat):Int)-1) (l.length:Int) (pk l)=_
  unfold kb
  rw[show ((w+1:Nat):Int)-1=(w:Int) from by omega,if_pos (by simp)]
  have hc:decide ((0:Int)≤(w:Int))=true:=decide_eq_true (by omega)
  rw[hc]
  simp only[chk,if_true]
  rw[qnF hn,qvx (by have:=qzJ n (2^w);omega)]
  have hx:((n/2^w%2:Nat):Int)=0∨((n/2^w%2:Nat):Int)=1:=by omega
  rw[qtb hl hx (by omega)]
  simp only[qxP]
  rw[qG (by omega) (by omega)]
  have:=qpc (F:=F) hn w k (l++[((n/2^w%2:Nat):Int)]) (by omega) (vX hl (by intro y hy;simp only[List.mem_singleton] at hy;rw[hy];exact hx)) (by simp;omega)
  rw[show (l++[((n/2^w%2:Nat):Int)]).length=l.length+1 from by simp] at this
  rw[this,qxS,show l.length+1+w=l.length+(w+1) from by omega]
  rfl
theorem qsx {F:Nat}{n w:Nat}{l:qAE}(hn:n<18446744073709551616)(hF:w<F)(hl:Bit l)(hm:l.length+w≤100000) :
  jz F (l.length:Int) (pk l) (n:Int) (w:Int)=some (((l.length+w:Nat):Int),pk (l++nb n w)):=by
 unfold jz
 rw[qG (by omega) (by omega)]
 exact qpc hn w F l hF hl hm
theorem qwP {F:Nat}{n w m:Nat}{b:qAE}(hn:n<18446744073709551616)(hF:w<F)(hb:U8s b)(ob:Ok m b)(hw:w≤10000) :
  qbS F (m:Int) b (n:Int) (w:Int)=some (((m+w:Nat):Int),pk (bl b m++nb n w)):=by
 unfold qbS
 have:=ob.max
 rw[qtR (by rw[ob.len];omega)]
 simp only[qxP]
 have h:=qsx (F:=F) (l:=bl b m) hn hF (qp7 _ _) (by rw[qal];omega)
 rw[qal,qt0 hb ob] at h
 rw[h];rfl
def U64 (n:Int):Prop:=0≤n∧n<18446744073709551616
theorem qp8 {b:qAE}{n i:Nat}(h:i<n):(bl b n)[i]?=some (bitAt b i):=by simp[bl,h]
theorem quh {F:Nat}{n:Int}{m a w:Nat}{b:qAE}(hb:U8s b)(hlen:m≤8*b.length)(hm:m≤10000)(ha:a+w≤m)(hw:w≤64):∀ (k i v:Nat),w<k+i→i≤w→v<2^i →
  qae F n b (a:Int) (w:Int) k ((v:Int),(i:Int))=some (((v*2^(w-i)+bv (((bl b m).drop (a+i)).take (w-i)):Nat):Int),true)
 | 0,_,_,_,_,_=>by omega
 | k+1,i,v,h,hi,hv=>by
  show qdJ F n b (a:Int) (w:Int) (qae F n b (a:Int) (w:Int) k) (v:Int) (i:Int)=_
  unfold qdJ
  by_cases hlt:i<w
  ·rw[if_pos (by simp;omega),jN (by omega),qs5 hb (by omega) (by omega)]
   simp only[qxP]
   have hx:=qi7 b (a+i)
   have hv64:2*v+1<18446744073709551616:=by
    have:2^(i+1)≤2^64:=qyx (by decide) (by omega)
    rw[qzb,two64] at this
    omega
   obtain ⟨x,hxe⟩:∃ x:Nat,bitAt b (a+i)=(x:Int):=qx0 (by omega)
   have hx1:x<2:=by omega
   have e1:ishl .u64 (v:Int) 1=((v*2:Nat):Int):=by
    have:=qik (n:=v) (k:=1) (by decide)
    rw[show ((1:Nat):Int)=1 from rfl] at this
    rw[this];omega
   have e2:ior .u64 ((v*2:Nat):Int) (x:Int)=((v*2+x:Nat):Int):=qxy (m:=1) (by omega) (by omega) (by omega)
   rw[hxe,e1,e2,qw (by omega)]
   rw[quh hb hlen hm ha hw k (i+1) (v*2+x) (by omega) (by omega) (by rw[qzb];omega)]
   have hd:((bl b m).drop (a+i)).take (w-i)=(x:Int)::((bl b m).drop (a+(i+1))).take (w-(i+1)):=by
    rw[qxT (by rw[qal];omega),show w-i=(w-(i+1))+1 from by omega,List.take_succ_cons,show a+i+1=a+(i+1) from by omega]
    congr 1
    have:=qp8 (b:=b) (n:=m) (i:=a+i) (by omega)
    rw[qxR (by rw[qal];omega)] at this
    rw[← hxe];exact qzp this
   rw[hd,qno,qxU]
   have hl:(((bl b m).drop (a+(i+1))).take (w-(i+1))).length=w-(i+1):=by simp[qal];omega
   rw[hl,show w-i=(w-(i+1))+1 from by omega,qzb,qzK]
   congr 3
   rw[Nat.mul_assoc,qzV 2,qyM]
  ·rw[if_neg (by simp;omega)]
   rw[show w-i=0 from by omega]
   simp[qfs,bv]
theorem qvS {F:Nat}{m a w:Nat}{b:qAE}(hF:100≤F)(hb:U8s b)(ob:Ok m b)(ha:a≤m)(hw:w≤64) :
  qau F (m:Int) b (a:Int) (w:Int)=some (if a+w≤m then (((bv (((bl b m).drop a).take w):Nat):Int),true) else (0,false)):=by
 unfold qau
 have hmx:=ob.max
 rw[qqg ha (by omega)]
 by_cases h:a+w≤m
 ·rw[if_neg (by simp;omega),if_pos h]
  have:=quh (F:=F) (n:=(m:Int)) (m:=m) (a:=a) (w:=w) hb (by rw[ob.len];omega) (by omega) h hw F 0 0 (by omega) (by omega) (by decide)
  simpa using this
 ·rw[if_pos (by simp;omega),if_neg h]
theorem qnE (n:Nat):irem (n:Int) 2=((n%2:Nat):Int):=by
 unfold irem;rw[qzd (by omega)];omega
theorem qvz {n:Nat}(h:n≤9223372036854775807):iquo .i64 (n:Int) 2=((n/2:Nat):Int):=by
 unfold iquo;rw[qyN (by omega),qL (by omega) (by omega)];omega
theorem qrv {n:Nat}(h:n<18446744073709551616):iquo .u64 (n:Int) 2=((n/2:Nat):Int):=by
 unfold iquo;rw[qyN (by omega),zg (by omega) (by omega)];omega
theorem jF {n:Nat}(h:n<9223372036854775808):iconv .i64 (n:Int)=(n:Int):=qL (by omega) (by omega)
theorem kn {n:Nat}(h:n<18446744073709551616):iconv .u64 (n:Int)=(n:Int):=zg (by omega) (by omega)
theorem qnt (x k:Nat):x/2^(k+1)=x/2/2^k:=by rw[qzb,qzV,Nat.div_div_eq_div_mul]
theorem qkb {F:Nat}{rec38:(qAE×Int)→Option (qAE)}{l:qAE}{i:Nat}(hm:i≤100000):∀ (k j x:Nat),7-i%8<k+j→j≤7-i%8→x<256 →
  vZ F rec38 l (i:Int) k ((x:Int),(j:Int))=qcU F rec38 l (i:Int) ((x/2^(7-i%8-j):Nat):Int)
 | 0,_,_,_,_,_=>by omega
 | k+1,j,x,h,hj,hx=>by
  show qcT F rec38 l (i:Int) (vZ F rec38 l (i:Int) k) (x:Int) (j:Int)=_
  unfold qcT
  rw[irem8,qG (by omega) (by omega)]
  by_cases hlt:j<7-i%8
  ·rw[if_pos (by simp;omega),qvz (by omega),qw (by omega),qkb hm k (j+1) (x/2) (by omega) (by omega) (by omega)]
   rw[show 7-i%8-j=(7-i%8-(j+1))+1 from by omega,qnt]
  ·rw[if_neg (by simp;omega),show 7-i%8-j=0 from by omega]
   simp
theorem qlR {F:Nat}(hF:100≤F){b:qAE}(hb:U8s b){n:Nat}(hn:n≤8*b.length)(hm:n≤100000):∀ (k i:Nat),n<k+i→i≤n →
  zS F (n:Int) b k (bl b i,(i:Int))=some (bl b n)
 | 0,_,_,_=>by omega
 | k+1,i,h,hi=>by
  show qcS F (n:Int) b (zS F (n:Int) b k) (bl b i) (i:Int)=_
  unfold qcS
  by_cases hlt:i<n
  ·rw[if_pos (by simp;omega),iquo8 (by omega),qs]
   have hg:b[i/8]?=some b[i/8]:=by rw[qxR (by omega)]
   rw[hg]
   simp only[qxP]
   have hx:=hb b[i/8] (qx9 (by omega))
   obtain ⟨x,hxe⟩:=qx0 hx.1
   rw[hxe,jF (by omega)]
   rw[show ((0:Int))=((0:Nat):Int) from rfl,qkb (by omega) F 0 x (by omega) (by omega) (by omega)]
   unfold qcU
   rw[qnE,qD (by rw[qal];simp;omega)]
   simp only[qxP,qeV]
   rw[qw (by omega)]
   have e:bl b i++[((x/2^(7-i%8-0)%2:Nat):Int)]=bl b (i+1):=by
    rw[qvk]
    congr 2
    unfold bitAt
    simp only[qyO,hg,Option.getD_some,hxe,Nat.sub_zero]
    norm_cast
   rw[e]
   exact qlR hF hb hn hm k (i+1) (by omega) (by omega)
  ·rw[if_neg (by simp;omega)]
   obtain rfl:i=n:=by omega
   rfl
theorem qih {F:Nat}(hF:20000≤F){b:qAE}(hb:U8s b){n:Nat}(hn:n≤8*b.length)(hm:n≤10000):qas F (n:Int) b=some (bl b n):=by
 unfold qas
 exact qlR (by omega) hb hn (by omega) F 0 (by omega) (by omega)
theorem qq0 {l:qAE}(h:Bit l){i:Nat}(hi:i<l.length):∃ x:Nat,l[i]?=some (x:Int)∧x<2:=by
 have:=h l[i] (qx9 hi)
 obtain ⟨x,hx⟩:=qx0 (show 0≤l[i] by omega)
 exact ⟨x,by rw[qxR hi,hx],by omega⟩
theorem qru {n:Nat}(h:n<4611686018427387904):imul .i64 2 (n:Int)=((2*n:Nat):Int):=by rw[qkr (by omega) (by omega)];omega
def byN (l:qAE)(i:Nat):Nat→Nat
 | 0=>0
 | k+1=>2*byN l i k+(l.getD (i+k) 0).toNat
theorem qtg {l:qAE}(h:Bit l)(i:Nat):∀ k,byN l i k<2^k
 | 0=>by simp[byN]
 | k+1=>by
  have:=qtg h i k
  have h2:=h.getD (i+k)
  unfold byN
  rw[qzb]
  omega
theorem qxt {l:qAE}(h:Bit l)(i:Nat):((byN l (8*i) 8:Nat):Int)=byt l i:=by
 have h0:=h.getD (8*i);have h1:=h.getD (8*i+1);have h2:=h.getD (8*i+2);have h3:=h.getD (8*i+3)
 have h4:=h.getD (8*i+4);have h5:=h.getD (8*i+5);have h6:=h.getD (8*i+6);have h7:=h.getD (8*i+7)
 unfold byt
 simp only[byN,qyP]
 omega
theorem qhf {F:Nat}{rec98:(Int×qAE)→Option (Int×qAE)}{l o:qAE}(hl:Bit l){i:Nat}(hm:i≤100000)(hlm:l.length≤100000):∀ (k j:Nat),8<k+j→j≤8 →
  kU F rec98 l (i:Int) o k ((byN l i j:Nat),(j:Int))=qbm F rec98 (i:Int) o ((byN l i 8:Nat):Int)
 | 0,_,_,_=>by omega
 | k+1,j,h,hj=>by
  show qbl F rec98 l (i:Int) o (kU F rec98 l (i:Int) o k) ((byN l i j:Nat):Int) (j:Int)=_
  unfold qbl
  by_cases hlt:j<8
  ·have hb:=qtg hl i j
   have hp:2^j≤2^8:=qyx (by decide) hj
   rw[show 2^8=256 from by decide] at hp
   rw[if_pos (by simp;omega),jN (by omega)]
   by_cases h2:i+j<l.length
   ·rw[if_pos (by simp;omega),qs]
    obtain ⟨x,hx,hx2⟩:=qq0 hl h2
    rw[hx]
    simp only[qxP,jo]
    rw[qru (by omega),jN (by omega),qw (by omega)]
    have e:2*byN l i j+x=byN l i (j+1):=by
     simp[byN,qyO,hx]
    rw[e]
    exact qhf hl hm hlm k (j+1) (by omega) (by omega)
   ·rw[if_neg (by simp;omega)]
    simp only[jo]
    rw[qru (by omega),qw (by omega)]
    have e:2*byN l i j=byN l i (j+1):=by
     show _=2*_+(l.getD (i+j) 0).toNat
     rw[qaR (by omega)];rfl
    rw[e]
    exact qhf hl hm hlm k (j+1) (by omega) (by omega)
  ·rw[if_neg (by simp;omega)]
   obtain rfl:j=8:=by omega
   rfl
theorem qkA {F:Nat}(hF:100≤F){l:qAE}(hl:Bit l)(hm:l.length≤90000):∀ (k i:Nat),(l.length+7)/8<k+i→i≤(l.length+7)/8 →
  zj F l k (((8*i:Nat):Int),(qy0 i).map (byt l))=some ((l.length:Int),pk l)
 | 0,_,_,_=>by omega
 | k+1,i,h,hi=>by
  show qch F l (zj F l k) ((8*i:Nat):Int) ((qy0 i).map (byt l))=_
  unfold qch
  by_cases hlt:8*i<l.length
  ·rw[if_pos (by simp;omega)]
   have:=qhf (F:=F) (rec98:=zj F l k) (o:=(qy0 i).map (byt l)) hl (i:=8*i) (by omega) (by omega) F 0 (by omega) (by omega)
   rw[show ((byN l (8*i) 0:Nat):Int)=0 from rfl,show ((0:Nat):Int)=0 from rfl] at this
   rw[this]
   unfold qbm
   rw[qxt hl]
   have hr:=qhx hl i
   rw[show iconv .u8 (byt l i)=byt l i from qi4 hr.1 hr.2,qD (by simp;omega)]
   simp only[qxP,qdz]
   rw[show ((8:Int))=((8:Nat):Int) from rfl,jN (by omega),show 8*i+8=8*(i+1) from by omega]
   have e:(qy0 i).map (byt l)++[byt l i]=(qy0 (i+1)).map (byt l):=by rw[qAq,qzi];rfl
   rw[e]
   exact qkA hF hl hm k (i+1) (by omega) (by omega)
  ·rw[if_neg (by simp;omega)]
   obtain rfl:i=(l.length+7)/8:=by omega
   rfl
theorem qpd {F:Nat}(hF:20000≤F){l:qAE}(hl:Bit l)(hm:l.length≤90000):qe6 F l=some ((l.length:Int),pk l):=by
 unfold qe6
 exact qkA (by omega) hl hm F 0 (by omega) (by omega)
theorem qdq {F:Nat}{a b c:Int}:zC F a b c=some (decide (b≤a∧a≤c)):=by
 unfold zC
 congr 1
 by_cases h:b≤a <;> by_cases h2:a≤c <;> simp[h,h2]
theorem qoL {F:Nat}{l:qAE}(hl:Bit l)(hm:l.length≤64):∀ (k i:Nat),l.length<k+i→i≤l.length →
  qa8 F l k ((bv (l.take i):Nat),(i:Int))=some ((bv l:Nat):Int)
 | 0,_,_,_=>by omega
 | k+1,i,h,hi=>by
  show qeq F l (qa8 F l k) ((bv (l.take i):Nat):Int) (i:Int)=_
  unfold qeq
  by_cases hlt:i<l.length
  ·rw[if_pos (by simp;omega),qs]
   obtain ⟨x,hx,hx2⟩:=qq0 hl hlt
   rw[hx]
   simp only[qxP,lett]
   rw[kn (by omega),qw (by omega)]
   have hb:bv (l.take (i+1))=2*bv (l.take i)+x:=by
    have:l.take (i+1)=l.take i++[(x:Int)]:=by rw[qzu,hx];rfl
    rw[this,qkc]
    simp[bv]
    omega
   have hlt2:bv (l.take (i+1))<2^64:=qzH (qkd (fun y hy=>hl y (qyV hy))) (qyx (by decide) (by simp;omega))
   rw[two64,hb] at hlt2
   have e:iadd .u64 (imul .u64 2 ((bv (l.take i):Nat):Int)) (x:Int)=((bv (l.take (i+1)):Nat):Int):=by
    unfold iadd imul
    rw[zg (n:=2*_) (by omega) (by omega),zg (by omega) (by omega),hb]
    omega
   rw[e]
   exact qoL hl hm k (i+1) (by omega) (by omega)
  ·rw[if_neg (by simp;omega)]
   obtain rfl:i=l.length:=by omega
   rw[qzf];rfl
theorem qsk {F:Nat}(hF:100≤F){l:qAE}(hl:Bit l)(hm:l.length≤64):qgB F l=some ((bv l:Nat):Int):=by
 unfold qgB
 exact qoL hl hm F 0 (by omega) (by omega)
theorem qmh {F w:Nat}(hw:w≤100000):∀ (k i n:Nat) (t:qAE),i<k→i≤w→n<18446744073709551616 →
  vJ F k ((n:Int),qx3 i 0++t,(i:Int)-1)=some (nb n i++t)
 | 0,_,_,_,h,_,_=>by omega
 | k+1,0,n,t,h,_,_=>by
  show j6 F (vJ F k) (n:Int) _ _=_
  unfold j6
  rw[if_neg (by simp)]
  simp[qfp,nb]
 | k+1,i+1,n,t,h,hi,hn=>by
  show j6 F (vJ F k) (n:Int) (qx3 (i+1) 0++t) (((i+1:Nat):Int)-1)=_
  unfold j6
  rw[show ((i+1:Nat):Int)-1=(i:Int) from by omega,if_pos (by simp),qs]
  have hg:(qx3 (i+1) (0:Int)++t)[i]?=some 0:=by
   rw[qy4 (by simp)];simp
  rw[hg]
  simp only[qxP,lett]
  rw[qnE,jF (by omega),qrv hn,qG (by omega) (by omega),qxU]
  have e:(qx3 (i+1) (0:Int)++t).set i ((n%2:Nat):Int)=qx3 i 0++(((n%2:Nat):Int)::t):=by
   rw[qz9,qxS,List.set_append_right _ _ (by simp)]
   simp
  rw[e,qmh hw k i (n/2) _ (by omega) (by omega) (by omega),qnJ]
  simp
theorem qkx {F w n:Nat}(hF:w<F)(hw:w≤100000)(hn:n<18446744073709551616):qeP F (n:Int) (w:Int)=some (nb n w):=by
 unfold qeP
 have hmk:mk 17592186044416 (0:Int) (w:Int)=some (qx3 w 0):=by
  unfold mk
  rw[if_pos (by simp;omega)];simp
 rw[hmk]
 simp only[qxP]
 rw[qG (by omega) (by omega)]
 have:=qmh (F:=F) hw F w n [] hF (by omega) hn
 simpa using this
theorem qjo {F:Nat}{l:qAE}(hm:l.length≤100000):∀ (k i:Nat),l.length<k+i→i≤l.length →
  vr F l k (i:Int)=some (if (l.drop i).all (· == 0) then 0 else 1)
 | 0,_,_,_=>by omega
 | k+1,i,h,hi=>by
  show qb8 F l (vr F l k) (i:Int)=_
  unfold qb8
  by_cases hlt:i<l.length
  ·rw[if_pos (by simp;omega),qs,qxR hlt,qxT hlt,List.all_cons]
   simp only[qxP]
   by_cases h0:l[i]=0
   ·rw[h0,if_neg (by simp),qw (by omega),qjo hm k (i+1) (by omega) (by omega)]
    simp
   ·rw[if_pos (by simpa using h0)]
    simp[h0]
  ·rw[if_neg (by simp;omega),qxW (by omega)]
   rfl
theorem qvg {b:qAE}(hb:U8s b){m:Nat}(hlen:b.length=(m+7)/8)(hr:m%8≠0):((bl b (8*((m+7)/8))).drop m).all (· == 0)=decide (b.getD (m/8) 0%2^(8-m%8)=0):=by
 obtain ⟨q,hq⟩:∃ q,q=m/8:=⟨_,rfl⟩
 obtain ⟨r,hrr⟩:∃ r,r=m%8:=⟨_,rfl⟩
 have hm:m=8*q+r:=by omega
 have hx:0≤b.getD q 0∧b.getD q 0<256:=by
  have hlt:q<b.length:=by omega
  have:=hb b[q] (qx9 hlt)
  simpa[qyO,hlt] using this
 have hc:(m+7)/8=q+1:=by omega
 obtain ⟨c0,c1,c2,c3,c4,c5,c6,c7⟩:=qnm b q
 have hall:((bl b (8*(q+1))).drop m).all (· == 0)=true↔(∀ i,m≤i→i<8*q+8→bitAt b i=0):=by
  rw[List.all_eq_true]
  constructor
  ·intro h i h1 h2
   have hg:((bl b (8*(q+1))).drop m)[i-m]?=some (bitAt b i):=by
    rw[qyF,show m+(i-m)=i from by omega];exact qp8 (by omega)
   have:=h _ (qxX hg)
   simpa using this
  ·intro h x hx
   obtain ⟨j,hj⟩:=qzv hx
   rw[qyF] at hj
   have hjl:m+j<8*(q+1):=by
    have:=(qx5.1 hj).1;rwa [qal] at this
   rw[qp8 hjl] at hj
   rw[← qzp hj,h _ (by omega) (by omega)];rfl
 rw[hc,← hq,← hrr,Bool.eq_iff_iff,decide_eq_true_iff,hall]
 have hall2:(∀ i,m≤i→i<8*q+8→bitAt b i=0)↔(∀ j,r≤j→j<8→bitAt b (8*q+j)=0):=by
  constructor
  ·intro h j h1 h2;exact h _ (by omega) (by omega)
  ·intro h i h1 h2
   have:=h (i-8*q) (by omega) (by omega)
   rwa [show 8*q+(i-8*q)=i from by omega] at this
 rw[hall2]
 generalize b.getD q 0=x at *
 have mk:∀ j,j<8→(∀ j',r≤j'→j'<8→bitAt b (8*q+j')=0)→r≤j→bitAt b (8*q+j)=0:=fun j h1 h h2=>h j h2 h1
 constructor
 ·intro h
  have g1:=mk 1 (by omega) h;have g2:=mk 2 (by omega) h;have g3:=mk 3 (by omega) h;have g4:=mk 4 (by omega) h
  have g5:=mk 5 (by omega) h;have g6:=mk 6 (by omega) h;have g7:=mk 7 (by omega) h
  rw[c1] at g1;rw[c2] at g2;rw[c3] at g3;rw[c4] at g4;rw[c5] at g5;rw[c6] at g6;rw[c7] at g7
  clear c0 c1 c2 c3 c4 c5 c6 c7 mk hall hall2 h
  rcases (by omega:r=1∨r=2∨r=3∨r=4∨r=5∨r=6∨r=7) with h | h | h | h | h | h | h <;> subst h <;> simp only[Nat.reduceSub,Int.reducePow] <;> omega
 ·intro h j h1 h2
  clear mk hall hall2
  rcases (by omega:r=1∨r=2∨r=3∨r=4∨r=5∨r=6∨r=7) with hh | hh | hh | hh | hh | hh | hh <;> subst hh <;> simp only[Nat.reduceSub,Int.reducePow] at h <;>
   rcases (by omega:j=1∨j=2∨j=3∨j=4∨j=5∨j=6∨j=7) with g | g | g | g | g | g | g <;> subst g <;> first | (exfalso;omega) | (rw[c1];omega) | (rw[c2];omega) | (rw[c3];omega) | (rw[c4];omega) | (rw[c5];omega) | (rw[c6];omega) | (rw[c7];omega)
theorem qiB {F:Nat}(hF:20000≤F){n:Int}{b:qAE}(hb:U8s b):qcI F n b=some (chkOf n b):=by
 unfold qcI chkOf
 rw[qdq]
 simp only[qxP]
 by_cases c1:n<0∨8192<n
 ·rw[if_pos (by simp;omega),if_pos c1]
 ·rw[if_neg (by simp;omega),if_neg c1]
  obtain ⟨m,rfl⟩:=qx0 (show 0≤n by omega)
  have hj:∀ c:Nat,c=(m+7)/8→j3 F (m:Int) b (c:Int)=some (if (b.length:Int)≠((m:Int)+7)/8 then 1 else if (m:Int)%8≠0∧b.getD ((m:Int).toNat/8) 0%2^(8-(m:Int).toNat%8)≠0 then 1 else 0):=by
   intro c hc
   unfold j3
   by_cases c2:b.length=c
   ·rw[if_neg (by simp[c2]),if_neg (by omega)]
    rw[qkr (by omega) (by omega),show (8:Int)*(c:Int)=((8*c:Nat):Int) from by omega,qih hF hb (by omega) (by omega)]
    simp only[qxP]
    rw[qjo (by rw[qal];omega) F m (by rw[qal];omega) (by rw[qal];omega),qxU]
    by_cases hr:m%8=0
    ·rw[qxW (by rw[qal];omega),List.all_nil,if_pos rfl,if_neg (by omega)]
    ·rw[hc,qvg hb (by omega) hr]
     by_cases hz:b.getD (m/8) 0%2^(8-m%8)=0
     ·rw[if_pos (decide_eq_true hz),if_neg (fun h=>h.2 hz)]
     ·rw[if_neg (by simp only[decide_eq_true_eq];exact hz),if_pos ⟨by omega,hz⟩]
   ·rw[if_pos (by rw[bne_iff_ne];omega),if_pos (by omega)]
  rw[irem8,iquo8 (by omega)]
  by_cases h8:0<m%8
  ·rw[if_pos (by simp;omega),qw (by omega)]
   exact hj _ (by omega)
  ·rw[if_neg (by simp;omega)]
   exact hj _ (by omega)
theorem qfJ {α:Type}{l:List α}{i j:Nat}(h1:i≤j)(h2:j≤l.length):sub l (i:Int) (j:Int)=some ((l.take j).drop i):=by
 unfold sub
 rw[if_pos ⟨by omega,by omega,by omega⟩,qxU,qxU]
theorem qeS {l:qAE}(h:Bit l)(i:Nat):Bit (l.drop i):=fun x hx=>h x (List.mem_of_mem_drop hx)
theorem qfC {l:qAE}(h:Bit l)(i:Nat):Bit (l.take i):=fun x hx=>h x (qyV hx)
theorem qoS {n:Int}{b:qAE}(hb:U8s b):chkOf n b≠0∨∃ l:qAE,Bit l∧l.length≤8192∧n=(l.length:Int)∧b=pk l:=by
 by_cases h:chkOf n b=0
 ·obtain ⟨m,rfl,ob⟩:=qti h
  exact .inr ⟨bl b m,qp7 _ _,by rw[qal];exact ob.max,by rw[qal],(qt0 hb ob).symm⟩
 ·exact .inl h
theorem qnq {l:qAE}(hm:l.length≤8192):chkOf (l.length:Int) (pk l)=0:=qoR (qiM hm)
theorem qt1 {l:qAE}(h:l.length≤8192):(pk l).length≤2000:=by rw[qhg];omega
def un (n:Nat):qAE:=qx3 n 0++[1]
theorem qhs (n:Nat):(un n).length=n+1:=by simp[un]
theorem qq2 (n:Nat):Bit (qx3 n 0):=by intro x hx;left;exact (List.mem_replicate.1 hx).2
theorem qq1:Bit [1]:=by intro x hx;right;simpa using hx
theorem qoc (n:Nat):Bit (un n):=vX (qq2 n) qq1
theorem qw4 (n:Nat):pk (qx3 n 0)=qx3 ((n+7)/8) 0:=by
 unfold pk
 rw[qyU]
 apply qzc
 intro k
 by_cases hk:k<(n+7)/8
 ·have hz:∀ i,(qx3 n (0:Int)).getD i 0=0:=by
   intro i
   by_cases h:i<n
   ·simp[qyO,h]
   ·exact qaR (by simp;omega)
  rw[qy2,qAd hk,List.getElem?_replicate,if_pos hk]
  simp only[qyy,byt,hz]
  rfl
 ·rw[qyi (by simpa using hk),qyi (by simpa using hk)]
theorem qnl {F:Nat}{n w:Nat}{l:qAE}(hn:n<18446744073709551616)(hF:w<F)(hl:Bit l)(hm:l.length≤8192)(hw:w≤10000) :
  qbS F (l.length:Int) (pk l) (n:Int) (w:Int)=some (((l++nb n w).length:Int),pk (l++nb n w)):=by
 rw[qwP hn hF (qf2 hl) (qiM hm) hw,qcC hl,qxQ,qeh]
theorem qua {F n:Nat}(hF:20000≤F)(hn:n<8192):qeR F (n:Int)=some (((un n).length:Int),pk (un n)):=by
 unfold qeR
 have e:iquo .u64 (iadd .u64 (n:Int) 7) 8=(((n+7)/8:Nat):Int):=by
  unfold iquo iadd
  rw[zg (n:=(n:Int)+7) (by omega) (by omega),qyN (by omega),zg (by omega) (by omega)]
  omega
 rw[e]
 have hmk:mk 140737488355328 (0:Int) (((n+7)/8:Nat):Int)=some (pk (qx3 n 0)):=by
  unfold mk
  rw[if_pos (by omega),qxU,qw4]
 rw[hmk]
 simp only[qxP]
 rw[jF (by omega)]
 have h:=qnl (F:=F) (n:=1) (w:=1) (l:=qx3 n 0) (by decide) (by omega) (qq2 n) (by simp;omega) (by decide)
 rw[qyU] at h
 rw[show ((1:Nat):Int)=1 from rfl] at h
 rw[h]
 rfl
def fz:qAE→Option Nat
 | []=>none
 | x::l=>if x=1 then some 0 else (fz l).map (·+1)
theorem qwx (n:Nat)(r:qAE):fz (un n++r)=some n:=by
 induction n with
 | zero=>simp[un,fz]
 | succ n ih =>
  have:un (n+1)++r=0::(un n++r):=by simp[un,List.replicate_succ]
  rw[this,fz,if_neg (by decide),ih];rfl
theorem qrh {l:qAE}{n:Nat}(h:fz l=some n):n<l.length:=by
 induction l generalizing n with
 | nil=>simp[fz] at h
 | cons x l ih =>
  unfold fz at h
  split at h
  ·simp at h;subst h;simp
  ·cases hf:fz l with
   | none=>rw[hf] at h;simp at h
   | some m=>rw[hf] at h;simp at h;subst h;have:=ih hf;simp;omega
theorem qs6 {F:Nat}{m:Int}{l:qAE}(hl:Bit l)(hm:l.length≤90000){i:Nat}(hi:i<l.length):qcx F m (pk l) (i:Int)=some l[i]:=by
 rw[qs5 (qf2 hl) (by rw[qhg];omega) (by omega),qoK hl hi]
 simp[qyO,hi]
theorem qtr {F:Nat}{l:qAE}(hl:Bit l)(hm:l.length≤8192)(a:Nat):∀ (k i:Nat),l.length<k+i→i≤l.length→a≤i →
  jk F (l.length:Int) (pk l) (a:Int) k (i:Int)=some (match fz (l.drop i) with | none=>(0,0,false) | some n=>(((i-a+n:Nat):Int),((i+n+1:Nat):Int),true))
 | 0,_,_,_,_=>by omega
 | k+1,i,h,hi,ha=>by
  show qdh F (l.length:Int) (pk l) (a:Int) (jk F (l.length:Int) (pk l) (a:Int) k) (i:Int)=_
  unfold qdh
  by_cases hlt:i<l.length
  ·rw[if_pos (by simp;omega),qs6 hl (by omega) hlt,qxT hlt,fz]
   simp only[qxP]
   by_cases h1:l[i]=1
   ·rw[if_pos (by simpa using h1),if_pos h1,qqg ha (by omega),kn (by omega),qw (by omega)]
    rfl
   ·rw[if_neg (by simpa using h1),if_neg h1,qw (by omega),qtr hl hm a k (i+1) (by omega) (by omega) (by omega)]
    cases fz (l.drop (i+1)) with
    | none=>rfl
    | some n =>
     simp only[qyy]
     rw[show i+1-a+n=i-a+(n+1) from by omega,show i+1+n+1=i+(n+1)+1 from by omega]
  ·rw[if_neg (by simp;omega),qxW (by omega)]
   rfl
theorem qrg {F:Nat}(hF:20000≤F){l:qAE}(hl:Bit l)(hm:l.length≤8192){a:Nat}(ha:a≤l.length) :
  qdW F (l.length:Int) (pk l) (a:Int)=some (match fz (l.drop a) with | none=>(0,0,false) | some n=>((n:Int),((a+n+1:Nat):Int),true)):=by
 unfold qdW
 have:=qtr (F:=F) hl hm a F a (by omega) ha (by omega)
 rw[this]
 cases fz (l.drop a) with
 | none=>rfl
 | some n=>simp only;rw[Nat.sub_self,qyI]
def raOf (m:Int)(b:qAE)(a:Int):Int:=if chkOf m b≠0 then chkOf m b else if a<0∨m<a then 3 else 0
theorem qw7 {m a:Int}{b:qAE}(h:chkOf m b≠0):raOf m b a=chkOf m b:=by unfold raOf;rw[if_pos h]
theorem qt9 {l:qAE}{a:Int}(h1:l.length≤8192)(h:¬ (0≤a∧a≤(l.length:Int))):raOf (l.length:Int) (pk l) a=3:=by
 unfold raOf;rw[if_neg (by simp[qnq h1]),if_pos (by omega)]
theorem qvQ {l:qAE}{a:Nat}(h1:l.length≤8192)(h:a≤l.length):raOf (l.length:Int) (pk l) (a:Int)=0:=by
 unfold raOf;rw[if_neg (by simp[qnq h1]),if_neg (by omega)]
theorem qt8 {m a:Int}{b:qAE}(hb:U8s b):raOf m b a≠0∨∃ (l:qAE) (i:Nat),Bit l∧l.length≤8192∧m=(l.length:Int)∧b=pk l∧a=(i:Int)∧i≤l.length:=by
 rcases qoS hb (n:=m) with h | ⟨l,hl,hm,rfl,rfl⟩
 ·left;rw[qw7 h];exact h
 ·by_cases h:0≤a∧a≤(l.length:Int)
  ·obtain ⟨i,rfl⟩:=qx0 h.1
   exact .inr ⟨l,i,hl,hm,rfl,rfl,rfl,by omega⟩
  ·left;rw[qt9 hm h];decide
theorem qqw {F:Nat}(hF:20000≤F){m a:Int}{b:qAE}(hb:U8s b):qfO F m b a=some (raOf m b a):=by
 unfold qfO raOf
 rw[qiB hF hb]
 simp only[qxP]
 by_cases h1:chkOf m b=0
 ·rw[if_pos (by simpa using h1),if_neg (by simp[h1]),qdq]
  simp only[qxP,qdD,qdC]
  by_cases h:a<0∨m<a
  ·rw[if_pos h,if_pos (by simp;omega)]
  ·rw[if_neg h,if_neg (by simp;omega),h1]
 ·rw[if_neg (by simpa using h1),if_pos h1]
  rfl
theorem qq4 {F:Nat}(hF:20000≤F){l k:qAE}(hl:Bit l)(hk:Bit k)(h1:l.length≤8192)(h2:k.length≤8192) :
  qat F (l.length:Int) (pk l) (k.length:Int) (pk k)=some (((l++k).length:Int),pk (l++k)):=by
 rw[qnn hF (qf2 hl) (qf2 hk) (qiM h1) (qiM h2),qcC hl,qcC hk,qxQ]
def N64 (l:qAE):Prop:=∀ x∈l,0≤x∧x<18446744073709551616
theorem qjB {F n:Nat}(hn:n≤100000):∀ (k i:Nat),n<k+i→i≤n →
  vC F (n:Int) k (qx3 i 0,(i:Int))=some (un n)
 | 0,_,_,_=>by omega
 | k+1,i,h,hi=>by
  show qcu F (n:Int) (vC F (n:Int) k) (qx3 i 0) (i:Int)=_
  unfold qcu
  by_cases hlt:i<n
  ·rw[if_pos (by simp;omega),qD (by simp;omega)]
   simp only[qxP]
   have e:iadd .u64 (i:Int) 1=((i+1:Nat):Int):=by unfold iadd;rw[zg (by omega) (by omega)];omega
   rw[e,← qz9]
   exact qjB hn k (i+1) (by omega) (by omega)
  ·rw[if_neg (by simp;omega)]
   obtain rfl:i=n:=by omega
   unfold qea
   rw[qD (by simp;omega)]
   rfl
theorem qod {F n:Nat}(hn:n≤100000)(hF:n<F):qey F (n:Int)=some (un n):=by
 unfold qey
 exact qjB hn F 0 (by omega) (by omega)
theorem qjC {F:Nat}{l:qAE}(hm:l.length≤100000):∀ (k i c:Nat),l.length<k+i→i≤l.length→c≤200000-(l.length-i) →
  vD F l k ((c:Int),(i:Int))=some (match fz (l.drop i) with | none=>(0,-1) | some n=>(((c+n:Nat):Int),((i+n+1:Nat):Int)))
 | 0,_,_,_,_,_=>by omega
 | k+1,i,c,h,hi,hc=>by
  show qcv F l (vD F l k) (c:Int) (i:Int)=_
  unfold qcv
  by_cases hlt:i<l.length
  ·rw[if_pos (by simp;omega),qs,qxR hlt,qxT hlt,fz]
   simp only[qxP]
   by_cases h1:l[i]=1
   ·rw[if_pos (by simpa using h1),if_pos h1,qw (by omega)]
    rfl
   ·have e:iadd .u64 (c:Int) 1=((c+1:Nat):Int):=by unfold iadd;rw[zg (by omega) (by omega)];omega
    rw[if_neg (by simpa using h1),if_neg h1,qw (by omega),e,qjC hm k (i+1) (c+1) (by omega) (by omega) (by omega)]
    cases fz (l.drop (i+1)) with
    | none=>rfl
    | some n =>
     simp only[qyy]
     rw[show c+1+n=c+(n+1) from by omega,show i+1+n+1=i+(n+1)+1 from by omega]
  ·rw[if_neg (by simp;omega),qxW (by omega)]
   rfl
theorem qi3 {F:Nat}{l:qAE}(hm:l.length≤10000)(hF:20000≤F){a:Nat}(ha:a≤l.length):qcM F l (a:Int)=some (match fz (l.drop a) with | none=>(0,-1) | some n=>((n:Int),((a+n+1:Nat):Int))):=by
 unfold qcM
 have:=qjC (F:=F) (l:=l) (by omega) F a 0 (by omega) ha (by omega)
 rw[show ((0:Nat):Int)=0 from rfl] at this
 rw[this]
 cases fz (l.drop a) with
 | none=>rfl
 | some n=>simp only;rw[qyI]
def len (x:Nat):Nat:=if x=0 then 0 else x.log2+1
theorem qgj {x k:Nat}:len x≤k↔x<2^k:=by
 unfold len
 by_cases h:x=0
 ·rw[if_pos h,h];simp[qzh]
 ·rw[if_neg h];exact Nat.log2_lt h
theorem qkv {x k:Nat}(h1:x<2^k)(h2:k=0∨2^(k-1)≤x):len x=k:=by
 have h3:=qgj.2 h1
 rcases h2 with rfl | h2
 ·omega
 ·by_cases h4:len x≤k-1
  ·have:=qgj.1 h4;omega
  ·omega
theorem qqm {x:Nat}:x<2^len x:=qgj.1 (qyb _)
theorem qql {x:Nat}(h:x≠0):2^(len x-1)≤x:=by
 have h1:1≤len x:=by unfold len;rw[if_neg h];omega
 apply Nat.le_of_not_lt
 intro h2
 have:=qgj.2 h2
 omega
theorem qhE {x:Nat}(h:x≠0):1≤len x:=by unfold len;rw[if_neg h];omega
theorem qhF {x k:Nat}(h:2^k≤x):len (x/2^k)+k=len x:=by
 have hp:0<2^k:=qzh (by decide)
 have hx:x≠0:=by omega
 have hd:x/2^k≠0:=by
  intro h0
  rw[Nat.div_eq_zero_iff] at h0
  omega
 symm
 apply qkv
 ·rw[qzz]
  have:=qqm (x:=x/2^k)
  exact (Nat.div_lt_iff_lt_mul hp).1 this
 ·right
  have h1:=qhE hd
  have:=qql hd
  rw[show len (x/2^k)+k-1=len (x/2^k)-1+k from by omega,qzz]
  exact (Nat.le_div_iff_mul_le hp).1 this
theorem qvB:∀ x:Fin 256,∀ k:Fin 8,yG 0 ((x.val:Nat):Int) ((8*k.val:Nat):Int)=some ((len x.val+8*k.val:Nat):Int):=by decide +kernel
theorem qrz {F x k:Nat}(hx:x<256)(hk:k≤56)(h8:k%8=0):yG F (x:Int) (k:Int)=some ((len x+k:Nat):Int):=by
 have h:=qvB ⟨x,hx⟩ ⟨k/8,by omega⟩
 simp only at h
 rw[show 8*(k/8)=k from by omega] at h
 exact h
theorem qry {F x k:Nat}(hx:x<65536)(hk:k≤48)(h8:k%8=0):yF F (x:Int) (k:Int)=some ((len x+k:Nat):Int):=by
 unfold yF
 by_cases h:256≤x
 ·have e:=qnF (n:=x) (k:=8) (by omega)
  rw[show ((8:Nat):Int)=8 from rfl] at e
  have e2:iadd .i64 (k:Int) 8=((k+8:Nat):Int):=by rw[qA (by omega) (by omega)];omega
  rw[if_pos (by simp;omega),e,e2,qrz (by omega) (by omega) (by omega),← qhF (x:=x) (k:=8) (by omega)]
  congr 2;omega
 ·rw[if_neg (by simp;omega),qrz (by omega) (by omega) (by omega)]
theorem qrx {F x k:Nat}(hx:x<4294967296)(hk:k≤32)(h8:k%8=0):yE F (x:Int) (k:Int)=some ((len x+k:Nat):Int):=by
 unfold yE
 by_cases h:65536≤x
 ·have e:=qnF (n:=x) (k:=16) (by omega)
  rw[show ((16:Nat):Int)=16 from rfl] at e
  have e2:iadd .i64 (k:Int) 16=((k+16:Nat):Int):=by rw[qA (by omega) (by omega)];omega
  rw[if_pos (by simp;omega),e,e2,qry (by omega) (by omega) (by omega),← qhF (x:=x) (k:=16) (by omega)]
  congr 2;omega
 ·rw[if_neg (by simp;omega),qry (by omega) (by omega) (by omega)]
theorem qku {F x:Nat}(hx:x<18446744073709551616):yW F (x:Int)=some ((len x:Nat):Int):=by
 unfold yW
 by_cases h:4294967296≤x
 ·have e:=qnF (n:=x) (k:=32) (by omega)
  rw[show ((32:Nat):Int)=32 from rfl] at e
  have:=qrx (F:=F) (x:=x/2^32) (k:=32) (by omega) (by omega) (by omega)
  rw[show ((32:Nat):Int)=32 from rfl] at this
  rw[if_pos (by simp;omega),e,this,qhF (x:=x) (k:=32) (by omega)]
 ·have:=qrx (F:=F) (x:=x) (k:=0) (by omega) (by omega) (by omega)
  rw[show ((0:Nat):Int)=0 from rfl] at this
  rw[if_neg (by simp;omega),this,qyP]
def lg (n:Nat):Nat:=len (n+1)-1
theorem qrA {n:Nat}:2^lg n≤n+1:=qql (by omega)
theorem qrB {n:Nat}:n+1<2^(lg n+1):=by
 have h:=qhE (x:=n+1) (by omega)
 unfold lg
 rw[Nat.sub_add_cancel h];exact qqm
theorem qsv {n k:Nat}(h1:2^k≤n+1)(h2:n+1<2^(k+1)):lg n=k:=by
 have:len (n+1)=k+1:=qkv h2 (.inr h1)
 unfold lg;omega
theorem qeT {n:Nat}(h:n≤1099511627776):lg n≤40:=by
 have:len (n+1)≤41:=qgj.2 (by omega)
 unfold lg;omega
theorem qwD {n:Nat}(h:n+1<18446744073709551616):lg n≤63:=by
 have:len (n+1)≤64:=qgj.2 (by rw[two64];exact h)
 unfold lg;omega
theorem qvU {F n:Nat}(h:n+1<18446744073709551616):qfa F (n:Int)=some ((lg n:Nat):Int):=by
 unfold qfa
 have e:iadd .u64 (n:Int) 1=((n+1:Nat):Int):=by unfold iadd;rw[zg (by omega) (by omega)];omega
 rw[e,qku (by omega)]
 simp only[qxP]
 have h1:=qhE (x:=n+1) (by omega)
 have h2:len (n+1)≤64:=qgj.2 (by rw[two64];omega)
 rw[jZ h1 (by omega)]
 rfl
theorem pow64 {k:Nat}(h:k≤63):2^k≤9223372036854775808:=by
 have:=qyx (show 0<2 by decide) h
 rwa [show (2:Nat)^63=9223372036854775808 from by decide] at this
theorem qgT {k:Nat}(h:k≤63):ishl .u64 1 (k:Int)=((2^k:Nat):Int):=by
 have:=qik (n:=1) (k:=k) (by omega)
 rw[show ((1:Nat):Int)=1 from rfl] at this
 have hp:=pow64 h
 rw[this,Nat.one_mul,qyp (by omega)]
theorem qfM {a b:Nat}(h:b≤a)(h2:a<18446744073709551616):isub .u64 (a:Int) (b:Int)=((a-b:Nat):Int):=by
 unfold isub;rw[zg (by omega) (by omega)];omega
theorem qhS {a:Nat}(h:1≤a)(h2:a<18446744073709551616):isub .u64 (a:Int) 1=((a-1:Nat):Int):=by
 unfold isub;rw[zg (by omega) (by omega)];omega
theorem qjm {a b:Nat}(h2:a+b<18446744073709551616):iadd .u64 (a:Int) (b:Int)=((a+b:Nat):Int):=by
 unfold iadd;rw[zg (by omega) (by omega)];omega
theorem qfk {a:Nat}(h2:a+1<18446744073709551616):iadd .u64 (a:Int) 1=((a+1:Nat):Int):=by
 unfold iadd;rw[zg (by omega) (by omega)];omega
theorem qwZ {F n k:Nat}(hn:n<18446744073709551616)(hk:k≤63):qfR F (n:Int) (k:Int)=some ((n%2^k:Nat):Int):=by
 unfold qfR
 have hp:=pow64 hk
 have hp0:0<2^k:=qzh (by decide)
 have hc:decide ((0:Int)≤(k:Int))=true:=decide_eq_true (by omega)
 rw[hc]
 simp only[chk,if_true,lett]
 rw[qgT hk,qhS (by omega) (by omega)]
 have e:=qgv (k:=.u64) (a:=(n:Int)) (m:=k) (by omega) (by simp only[IntKind.bits];rw[show (2:Int)^64=18446744073709551616 from by decide];omega) (by simp only[IntKind.bits];omega) rfl
 rw[e]
 norm_cast
theorem qw1 {n k w:Nat}(h:w≤k):nb (n%2^k) w=nb n w:=by
 induction w with
 | zero=>rfl
 | succ w ih =>
  rw[nb,nb,ih (by omega)]
  congr 2
  have hp:2^k=2^w*2^(k-w):=by rw[← qzz];congr 1;omega
  rw[hp,Nat.mod_mul_right_div_self]
  have hp2:2^(k-w)=2*2^(k-w-1):=by rw[← qz1];congr 1;omega
  rw[hp2,Nat.mod_mul_right_mod]
def ga (n:Nat):qAE:=un (lg n)++nb (n+1) (lg n)
theorem qgL (n:Nat):Bit (ga n):=vX (qoc _) (qqp _ _)
theorem qnx (n:Nat):(ga n).length=2*lg n+1:=by unfold ga;rw[qxQ,qhs,qeh];omega
theorem qjw {F n:Nat}(hF:20000≤F)(hn:n+1<18446744073709551616):qaf F (n:Int)=some (((ga n).length:Int),pk (ga n)):=by
 unfold qaf
 have h63:=qwD hn
 rw[qvU hn]
 simp only[qxP]
 rw[kn (by omega),qua hF (by omega)]
 simp only[qxP]
 rw[qfk hn,qwZ hn h63]
 simp only[qxP]
 have hlt:(n+1)%2^lg n<18446744073709551616:=by have:=Nat.mod_le (n+1) (2^lg n);omega
 rw[qnl hlt (by omega) (qoc _) (by rw[qhs];omega) (by omega),qw1 (qyb _)]
 rfl
def numOf (l:qAE)(k a:Nat):Int×Int×Int :=
 if 64≤k then (0,0,3) else if l.length<a+k then (0,0,7) else if 1099511627776<bv ((l.drop a).take k)+2^k-1 then (0,0,3) else (((bv ((l.drop a).take k)+2^k-1:Nat):Int),((a+k:Nat):Int),0)
def fg (l:qAE)(a:Nat):Int×Int×Int:=match fz (l.drop a) with | none=>(0,0,7) | some k=>numOf l k (a+k+1)
theorem qiQ {F a w:Nat}{l:qAE}(hF:100≤F)(hl:Bit l)(hm:l.length≤8192)(ha:a≤l.length)(hw:w≤64) :
  qau F (l.length:Int) (pk l) (a:Int) (w:Int)=some (if a+w≤l.length then (((bv ((l.drop a).take w):Nat):Int),true) else (0,false)):=by
 have:=qvS hF (qf2 hl) (qiM hm) ha hw
 rwa [qcC hl] at this
theorem ql0 {l:qAE}{a:Nat}:(fg l a).2.2≠0∨∃ n q:Nat,fg l a=((n:Int),(q:Int),0)∧n≤1099511627776∧q≤l.length:=by
 unfold fg
 cases hf:fz (l.drop a) with
 | none=>left;simp
 | some k =>
  simp only
  unfold numOf
  by_cases h1:64≤k
  ·left;rw[if_pos h1];decide
  ·rw[if_neg h1]
   by_cases h2:l.length<a+k+1+k
   ·left;rw[if_pos h2];decide
   ·rw[if_neg h2]
    by_cases h3:1099511627776<bv ((l.drop (a+k+1)).take k)+2^k-1
    ·left;rw[if_pos h3];decide
    ·right;rw[if_neg h3];exact ⟨_,_,rfl,by omega,by omega⟩
theorem qqq {F k a:Nat}{l:qAE}(hF:20000≤F)(hl:Bit l)(hm:l.length≤8192)(ha:a≤l.length) :
  (if decide ((64:Int)≤(k:Int)) then some ((0:Int),(0:Int),(3:Int)) else ((qau F (l.length:Int) (pk l) (a:Int) (iconv .i64 (k:Int))).bind fun x10=>(if (!x10.2) then some (0,0,7) else (chk (decide ((0:Int)≤(k:Int))) ((lett (iadd .u64 x10.1 (isub .u64 (ishl .u64 1 (k:Int)) 1)) fun x16=>(if (decide (1099511627776<x16)) then some (0,0,3) else some (x16,iadd .i64 (a:Int) (iconv .i64 (k:Int)),0))))))))=some (numOf l k a):=by
 unfold numOf
 by_cases h1:64≤k
 ·rw[if_pos (by simp;omega),if_pos h1]
 ·rw[if_neg (by simp;omega),if_neg h1,jF (by omega),qiQ (by omega) hl hm ha (by omega)]
  simp only[qxP]
  by_cases h2:a+k≤l.length
  ·rw[if_pos h2,if_neg (show ¬ l.length<a+k by omega)]
   have hc:decide ((0:Int)≤(k:Int))=true:=decide_eq_true (by omega)
   simp only[qyE,qxZ,if_false,hc,chk,if_true,lett]
   have hb:=qkd (qfC (qeS hl a) k)
   rw[qye,qya,qzj (by omega)] at hb
   have hp:=pow64 (k:=k) (by omega)
   have hp0:0<2^k:=qzh (by decide)
   rw[qgT (by omega),qhS (by omega) (by omega),qjm (by omega),jN (by omega),show bv ((l.drop a).take k)+(2^k-1)=bv ((l.drop a).take k)+2^k-1 from by omega]
   by_cases h3:1099511627776<bv ((l.drop a).take k)+2^k-1
   ·rw[if_pos h3,if_pos (by simp only[decide_eq_true_eq];omega)]
   ·rw[if_neg h3,if_neg (by simp only[decide_eq_true_eq];omega)]
  ·rw[if_neg h2,if_pos (show l.length<a+k by omega)]
   rfl
theorem qiF {F a:Nat}{l:qAE}(hF:20000≤F)(hl:Bit l)(hm:l.length≤8192)(ha:a≤l.length):jA F (l.length:Int) (pk l) (a:Int)=some (fg l a):=by
 unfold jA ka qcF
 rw[qrg hF hl hm ha]
 unfold fg
 cases hf:fz (l.drop a) with
 | none=>rfl
 | some k =>
  have hk:=qrh hf
  rw[qya] at hk
  simp only[qxP,qyE,qxZ,if_false,bne_self_eq_false]
  rw[qqq hF hl hm (by omega)]
  rfl
theorem qtQ {n:Nat}(hn:n≤1099511627776)(p r:qAE):numOf (p++nb (n+1) (lg n)++r) (lg n) p.length=((n:Int),((p.length+lg n:Nat):Int),0):=by
 have h40:=qeT hn
 have h1:=qrA (n:=n)
 have h2:=qrB (n:=n)
 have hp0:0<2^lg n:=qzh (by decide)
 have hbv:bv (((p++nb (n+1) (lg n)++r).drop p.length).take (lg n))=n+1-2^lg n:=by
  rw[qxS,qzg,qzS (qeh _ _),qoN]
  rw[qzb] at h2
  rw[Nat.mod_eq_sub_mod h1,qyp (by omega)]
 unfold numOf
 rw[hbv,if_neg (by omega),if_neg (by rw[qxQ,qxQ,qeh];omega),if_neg (by omega),show n+1-2^lg n+2^lg n-1=n from by omega]
theorem qxu {n:Nat}(hn:n≤1099511627776)(p r:qAE):fg (p++ga n++r) p.length=((n:Int),((p.length+(ga n).length:Nat):Int),0):=by
 unfold fg
 have h0:(p++ga n++r).drop p.length=un (lg n)++(nb (n+1) (lg n)++r):=by
  rw[qxS,qzg];unfold ga;rw[qxS]
 rw[h0,qwx]
 simp only
 have:=qtQ hn (p++un (lg n)) r
 rw[qxQ,qhs] at this
 have e:p++ga n++r=p++un (lg n)++nb (n+1) (lg n)++r:=by unfold ga;simp[qxS]
 rw[e,show p.length+lg n+1=p.length+(lg n+1) from by omega,this,qnx,show p.length+(lg n+1)+lg n=p.length+(2*lg n+1) from by omega]
theorem qoJ {F:Nat}:∀ (k n:Nat) (t:qAE),len n<k→n<18446744073709551616→t.length+len n≤10000→qba F k ((n:Int),t)=some (nb n (len n)++t)
 | 0,_,_,h,_,_=>by omega
 | k+1,n,t,h,hn,ht=>by
  show qez F (qba F k) (n:Int) t=_
  unfold qez
  by_cases h0:n=0
  ·subst h0
   rw[if_neg (by simp)]
   simp[qge,len,nb]
  ·rw[if_pos (by simp;omega),qnE,jF (by omega),qD (by simp;omega)]
   simp only[qxP]
   have hl:len n=len (n/2)+1:=by
    by_cases h1:n=1
    ·subst h1;rfl
    ·have:=qhF (x:=n) (k:=1) (by omega);rw[Nat.pow_one] at this;omega
   rw[qrv hn,List.singleton_append,qoJ k (n/2) _ (by omega) (by omega) (by simp;omega),hl,qnJ]
   simp
theorem qsj {F n:Nat}(hF:20000≤F)(hn:n<18446744073709551616):qgF F (n:Int)=some (nb n (len n)):=by
 unfold qgF
 have h64:len n≤64:=qgj.2 (by rw[two64];exact hn)
 rw[qoJ F n [] (by omega) hn (by simp;omega),qyh]
theorem qw2 {n:Nat}:nb (n+1) (len (n+1))=1::nb (n+1) (lg n):=by
 have h1:=qhE (x:=n+1) (by omega)
 have h2:=qrA (n:=n)
 have h3:=qrB (n:=n)
 have e:len (n+1)=lg n+1:=by unfold lg;omega
 rw[e,nb]
 congr 1
 have hd:(n+1)/2^lg n=1:=by
  rw[qzb] at h3
  exact Nat.div_eq_of_lt_le (by omega) (by omega)
 rw[hd];rfl
theorem qjs {F:Nat}{m:qAE}(hm:m.length≤1000)(h1:1≤m.length):∀ (k i:Nat),m.length<k+i→1≤i→i≤m.length →
  vt F m k (qx3 (i-1) 0,(i:Int))=some (qx3 (m.length-1) 0++m)
 | 0,_,_,_,_=>by omega
 | k+1,i,h,hi1,hi=>by
  show qb9 F m (vt F m k) (qx3 (i-1) 0) (i:Int)=_
  unfold qb9
  by_cases hlt:i<m.length
  ·rw[if_pos (by simp;omega),qD (by simp;omega),← qz9,qw (by omega)]
   simp only[qxP]
   have:=qjs (F:=F) hm h1 k (i+1) (by omega) (by omega) (by omega)
   rw[qym] at this
   rw[show i-1+1=i from by omega]
   exact this
  ·rw[if_neg (by simp;omega)]
   obtain rfl:i=m.length:=by omega
   unfold qd5
   rw[qD (by simp;omega)]
   rfl
theorem qgM {F n:Nat}(hF:20000≤F)(hn:n+1<18446744073709551616):ko F (n:Int)=some (ga n):=by
 unfold ko
 have h64:=qwD hn
 rw[qfk hn,qsj hF (by omega),qw2]
 simp only[qxP]
 have:=qjs (F:=F) (m:=1::nb (n+1) (lg n)) (by simp[qeh];omega) (by simp) F 1 (by simp[qeh];omega) (by omega) (by simp)
 rw[Nat.sub_self,List.replicate_zero] at this
 rw[show ((1:Nat):Int)=1 from rfl] at this
 rw[this]
 simp[ga,un,qeh]
theorem qpp {F k a:Nat}{l:qAE}(hF:20000≤F)(hl:Bit l)(hm:l.length≤8192)(ha:a≤l.length)(hk:k≤100000):qe9 F l (a:Int) (k:Int)=some (numOf l k a):=by
 unfold qe9 numOf
 by_cases h1:64≤k
 ·rw[if_pos (by simp;omega),if_pos h1]
 ·rw[if_neg (by simp;omega),if_neg h1,jF (by omega),jN (by omega)]
  by_cases h2:l.length<a+k
  ·rw[if_pos (by simp;omega),if_pos h2]
  ·rw[if_neg (by simp;omega),if_neg h2,qfJ (by omega) (by omega)]
   simp only[qxP]
   have hd:(l.take (a+k)).drop a=(l.drop a).take k:=by rw[List.drop_take,Nat.add_sub_cancel_left]
   have hlen:((l.drop a).take k).length=k:=by simp;omega
   have hb:=qkd (qfC (qeS hl a) k)
   rw[hlen] at hb
   have hp:=pow64 (k:=k) (by omega)
   have hp0:0<2^k:=qzh (by decide)
   rw[hd,qD (by simp;omega)]
   simp only[qxP]
   rw[qsk (by omega) (vX qq1 (qfC (qeS hl a) k)) (by simp;omega),qkc,hlen]
   simp only[qxP]
   rw[show bv [1]=1 from rfl,Nat.one_mul,qhS (by omega) (by omega),qzU (2^k)]
   by_cases h3:1099511627776<bv ((l.drop a).take k)+2^k-1
   ·rw[if_pos h3,if_pos (by simp only[decide_eq_true_eq];omega)]
   ·rw[if_neg h3,if_neg (by simp only[decide_eq_true_eq];omega)]
theorem qgN {F a:Nat}{l:qAE}(hF:20000≤F)(hl:Bit l)(hm:l.length≤8192)(ha:a≤l.length):kG F l (a:Int)=some (fg l a):=by
 unfold kG
 rw[qi3 (by omega) hF ha]
 unfold fg
 cases hf:fz (l.drop a) with
 | none=>rfl
 | some k =>
  have hk:=qrh hf
  rw[qya] at hk
  simp only[qxP]
  rw[if_neg (by simp;omega),qpp hF hl hm (by omega) (by omega)]
  rfl
def sh (m:Nat):Nat:=len (m-1)
def dd (m:Nat):Nat:=2^sh m-m
theorem qwO {m:Nat}(h:1≤m):m≤2^sh m:=by have:=qqm (x:=m-1);unfold sh;omega
theorem qiV {m:Nat}(h:m≤9223372036854775808):sh m≤63:=qgj.2 (by rw[show (2:Nat)^63=9223372036854775808 from by decide];omega)
theorem qxF {m:Nat}(h:2≤m):1≤sh m∧2^(sh m-1)<m:=by
 have h1:=qhE (x:=m-1) (by omega)
 have h2:=qql (x:=m-1) (by omega)
 unfold sh;omega
theorem qxO:sh 1=0:=rfl
theorem qg9 {m:Nat}(h:1≤m):m+dd m=2^sh m:=by have:=qwO h;unfold dd;omega
theorem qiC {m:Nat}(h:1≤m)(hd:0<dd m):1≤sh m∧dd m<2^(sh m-1):=by
 by_cases h2:2≤m
 ·obtain ⟨h3,h4⟩:=qxF h2
  have h5:=qg9 h
  have h6:2^sh m=2*2^(sh m-1):=by rw[← qz1];congr 1;omega
  omega
 ·obtain rfl:m=1:=by omega
  simp[dd,qxO] at hd
theorem qhm {F m:Nat}(h:1≤m)(h2:m≤9223372036854775808):qbV F (m:Int)=some ((sh m:Int),(dd m:Int)):=by
 unfold qbV
 have h63:=qiV h2
 have hl:=qwO h
 rw[qhS h (by omega),qku (by omega)]
 simp only[qxP]
 have hc:decide ((0:Int)≤((len (m-1):Nat):Int))=true:=decide_eq_true (by omega)
 rw[hc]
 simp only[chk,if_true]
 have hp:=pow64 h63
 have e:=qgT h63
 unfold sh at e hl hp
 rw[e,qfM hl (by omega)]
 rfl
def le (n m:Nat):qAE:=if n<dd m then nb n (sh m-1) else nb (n+dd m) (sh m)
theorem qwY (n m:Nat):Bit (le n m):=by unfold le;split <;> exact qqp _ _
theorem qqj (n m:Nat):(le n m).length=if n<dd m then sh m-1 else sh m:=by unfold le;split <;> exact qeh _ _
theorem qoI {F n m:Nat}{l:qAE}(hF:20000≤F)(hl:Bit l)(hlm:l.length≤8192)(hm:m≤9223372036854775808)(hn:n<m) :
  qbx F (l.length:Int) (pk l) (n:Int) (m:Int)=some (((l++le n m).length:Int),pk (l++le n m)):=by
 unfold qbx le
 have h63:=qiV hm
 have ha:=qg9 (m:=m) (by omega)
 have hp:=pow64 h63
 rw[qhm (by omega) hm]
 simp only[qxP]
 by_cases h:n<dd m
 ·obtain ⟨h1,h2⟩:=qiC (m:=m) (by omega) (by omega)
  rw[if_pos (by simp;omega),if_pos h,jZ h1 (by omega),qnl (by omega) (by omega) hl hlm (by omega)]
  rfl
 ·rw[if_neg (by simp;omega),if_neg h,qjm (by omega),qnl (by omega) (by omega) hl hlm (by omega)]
  rfl
def flR (l:qAE)(a m:Nat):Option (Nat×Nat):=if a+sh m≤l.length then some (bv ((l.drop a).take (sh m))-dd m,a+sh m) else none
def flOf (l:qAE)(a m:Nat):Option (Nat×Nat) :=
 if 0<dd m then (if a+(sh m-1)≤l.length then (if bv ((l.drop a).take (sh m-1))<dd m then some (bv ((l.drop a).take (sh m-1)),a+(sh m-1)) else flR l a m) else none) else flR l a m
theorem qi1 {l:qAE}(hl:Bit l){a s:Nat}(hs:1≤s)(h:a+s≤l.length):∃ x,x<2∧bv ((l.drop a).take s)=2*bv ((l.drop a).take (s-1))+x:=by
 obtain ⟨x,hx,hx2⟩:=qq0 (qeS hl a) (i:=s-1) (by simp;omega)
 refine ⟨x,hx2,?_⟩
 have:(l.drop a).take s=(l.drop a).take (s-1)++[(x:Int)]:=by
  have h1:s=(s-1)+1:=by omega
  conv=>lhs;rw[h1,qzu,hx]
  rfl
 rw[this,qkc]
 simp[bv]
 omega
theorem qto {l:qAE}(hl:Bit l){a m n q:Nat}(hm:1≤m)(h:flOf l a m=some (n,q)):n<m∧q≤l.length:=by
 have hR:flR l a m=some (n,q)→n<m∧q≤l.length:=by
  intro h
  unfold flR at h
  split at h
  ·rename_i h1
   simp only[qx2,qzs] at h
   have:=qkd (qfC (qeS hl a) (sh m))
   rw[qye,qya,qzj (by omega)] at this
   have:=qg9 hm
   omega
  ·simp at h
 unfold flOf at h
 split at h
 ·rename_i h0
  split at h
  ·split at h
   ·simp only[qx2,qzs] at h
    have h1:=qiC hm h0
    have h2:=qg9 hm
    have h6:2^sh m=2*2^(sh m-1):=by rw[← qz1];congr 1;omega
    omega
   ·exact hR h
  ·simp at h
 ·exact hR h
theorem qnw {F a m:Nat}{l:qAE}(hF:20000≤F)(hl:Bit l)(hlm:l.length≤8192)(ha:a≤l.length)(hm1:1≤m)(hm:m≤9223372036854775808) :
  match flOf l a m with
  | none=>∃ x y,zA F (l.length:Int) (pk l) (a:Int) (m:Int)=some (x,y,false)
  | some p=>zA F (l.length:Int) (pk l) (a:Int) (m:Int)=some ((p.1:Int),(p.2:Int),true):=by
 have h63:=qiV hm
 have hadd:=qg9 hm1
 have hp:=pow64 h63
 have hj1:(0<dd m→¬ bv ((l.drop a).take (sh m-1))<dd m)→match flR l a m with
   | none=>∃ x y,zD F (l.length:Int) (pk l) (a:Int) ((sh m:Int),(dd m:Int))=some (x,y,false)
   | some p=>zD F (l.length:Int) (pk l) (a:Int) ((sh m:Int),(dd m:Int))=some ((p.1:Int),(p.2:Int),true):=by
  intro hge
  unfold flR zD
  simp only
  rw[qiQ (by omega) hl hlm ha (by omega)]
  simp only[qxP]
  by_cases h:a+sh m≤l.length
  ·rw[if_pos h,if_pos h]
   simp only
   have hb:=qkd (qfC (qeS hl a) (sh m))
   rw[qye,qya,qzj (by omega)] at hb
   have hdb:dd m≤bv ((l.drop a).take (sh m)):=by
    by_cases h0:0<dd m
    ·obtain ⟨h1,_⟩:=qiC hm1 h0
     obtain ⟨x,_,hx⟩:=qi1 hl h1 h
     have:=hge h0
     omega
    ·omega
   rw[qfM hdb (by omega),jN (by omega)]
  ·rw[if_neg h,if_neg h]
   exact ⟨_,_,rfl⟩
 by_cases h0:0<dd m
 ·obtain ⟨h1,h2⟩:=qiC hm1 h0
  by_cases h3:a+(sh m-1)≤l.length
  ·by_cases h4:bv ((l.drop a).take (sh m-1))<dd m
   ·have e:flOf l a m=some (bv ((l.drop a).take (sh m-1)),a+(sh m-1)):=by unfold flOf;rw[if_pos h0,if_pos h3,if_pos h4]
    rw[e]
    unfold zA
    rw[qhm hm1 hm]
    simp only[qxP]
    rw[if_pos (by simp;omega),jZ h1 (by omega),qiQ (by omega) hl hlm ha (by omega),if_pos h3]
    simp only[qxP,qyE,qxZ,if_false]
    rw[if_pos (by simp;omega),jN (by omega),jZ (by omega) (by omega),show a+sh m-1=a+(sh m-1) from by omega]
   ·have e:flOf l a m=flR l a m:=by unfold flOf;rw[if_pos h0,if_pos h3,if_neg h4]
    have e2:zA F (l.length:Int) (pk l) (a:Int) (m:Int)=zD F (l.length:Int) (pk l) (a:Int) ((sh m:Int),(dd m:Int)):=by
     unfold zA
     rw[qhm hm1 hm]
     simp only[qxP]
     rw[if_pos (by simp;omega),jZ h1 (by omega),qiQ (by omega) hl hlm ha (by omega),if_pos h3]
     simp only[qxP,qyE,qxZ,if_false]
     rw[if_neg (by simp;omega)]
    rw[e,e2]
    exact hj1 (fun _=>h4)
  ·have e:flOf l a m=none:=by unfold flOf;rw[if_pos h0,if_neg h3]
   rw[e]
   unfold zA
   rw[qhm hm1 hm]
   simp only[qxP]
   rw[if_pos (by simp;omega),jZ h1 (by omega),qiQ (by omega) hl hlm ha (by omega),if_neg h3]
   exact ⟨_,_,rfl⟩
 ·have e:flOf l a m=flR l a m:=by unfold flOf;rw[if_neg h0]
  have e2:zA F (l.length:Int) (pk l) (a:Int) (m:Int)=zD F (l.length:Int) (pk l) (a:Int) ((sh m:Int),(dd m:Int)):=by
   unfold zA
   rw[qhm hm1 hm]
   simp only[qxP]
   rw[if_neg (by simp;omega)]
  rw[e,e2]
  exact hj1 (fun h=>absurd h h0)
theorem qxv {n m:Nat}(hn:n<m)(p r:qAE):flOf (p++le n m++r) p.length m=some (n,p.length+(le n m).length):=by
 have hd:(p++le n m++r).drop p.length=le n m++r:=by rw[qxS,qzg]
 have hll:=qqj n m
 have hadd:=qg9 (m:=m) (by omega)
 have hL:(p++le n m++r).length=p.length+(le n m).length+r.length:=by simp;omega
 unfold flOf flR
 rw[hd,hL,hll]
 by_cases h:n<dd m
 ·obtain ⟨h1,h2⟩:=qiC (m:=m) (by omega) (by omega)
  have e:bv ((le n m++r).take (sh m-1))=n:=by
   unfold le
   rw[if_pos h,qzS (qeh _ _),qoN,qyp (by omega)]
  rw[if_pos h,if_pos (by omega),if_pos (by omega),e,if_pos h]
 ·have e:bv ((le n m++r).take (sh m))=n+dd m:=by
   unfold le
   rw[if_neg h,qzS (qeh _ _),qoN,qyp (by omega)]
  rw[if_neg h]
  by_cases h0:0<dd m
  ·obtain ⟨h1,h2⟩:=qiC (m:=m) (by omega) h0
   have e2:bv ((le n m++r).take (sh m-1))=(n+dd m)/2:=by
    unfold le
    rw[if_neg h]
    have hs:nb (n+dd m) (sh m)=nb ((n+dd m)/2) (sh m-1)++[((((n+dd m)%2:Nat)):Int)]:=by
     have:=qnJ (n+dd m) (sh m-1)
     rwa [show sh m-1+1=sh m from by omega] at this
    have h6:2^sh m=2*2^(sh m-1):=by rw[← qz1];congr 1;omega
    rw[hs,qxS,qzS (qeh _ _),qoN,qyp (by omega)]
   rw[if_pos h0,if_pos (by omega),e2,if_neg (by omega),if_pos (by omega),e,qym]
  ·rw[if_neg h0,if_pos (by omega),e,qym]
theorem qr1 {k m:Nat}(hk:k≤63)(hm:1≤m):decide (ishl .u64 1 (k:Int)<(m:Int))=decide (k<sh m):=by
 rw[qgT hk]
 congr 1
 rw[eq_iff_iff]
 have:=qgj (x:=m-1) (k:=k)
 unfold sh
 omega
theorem qjt {F n m:Nat}(hF:20000≤F)(hm1:1≤m)(hm:m≤9223372036854775808)(hn:n<m):∀ (k i:Nat),sh m<k+i→i≤sh m →
  vu F (n:Int) (m:Int) k (i:Int)=some (le n m)
 | 0,_,_,_=>by omega
 | k+1,i,h,hi=>by
  show qcb F (n:Int) (m:Int) (vu F (n:Int) (m:Int) k) (i:Int)=_
  unfold qcb
  have h63:=qiV hm
  have hadd:=qg9 hm1
  have hp:=pow64 h63
  have hc:decide ((0:Int)≤(i:Int))=true:=decide_eq_true (by omega)
  rw[hc]
  simp only[chk,if_true]
  rw[qr1 (by omega) hm1]
  by_cases hlt:i<sh m
  ·rw[if_pos (by simpa using hlt),qw (by omega)]
   exact qjt hF hm1 hm hn k (i+1) (by omega) (by omega)
  ·rw[if_neg (by simpa using hlt)]
   obtain rfl:i=sh m:=by omega
   unfold qd6 le
   rw[hc]
   simp only[chk,if_true]
   rw[qgT h63,qfM (by omega) (by omega),show 2^sh m-m=dd m from rfl]
   by_cases hd:n<dd m
   ·obtain ⟨h1,h2⟩:=qiC (m:=m) (by omega) (by omega)
    rw[if_pos (by simp;omega),if_pos hd,jZ h1 (by omega),qkx (by omega) (by omega) (by omega)]
    rfl
   ·rw[if_neg (by simp;omega),if_neg hd,qjm (by omega),qkx (by omega) (by omega) (by omega)]
    rfl
theorem qnG {F n m:Nat}(hF:20000≤F)(hm:m≤9223372036854775808)(hn:n<m):qet F (n:Int) (m:Int)=some (le n m):=by
 unfold qet
 have h63:=qiV hm
 exact qjt hF (by omega) hm hn F 0 (by omega) (by omega)
def lrI (p:Option (Nat×Nat)):Int×Int:=match p with | none=>(0,-1) | some p=>((p.1:Int),(p.2:Int))
theorem qju {F a m:Nat}{l:qAE}(hl:Bit l)(hlm:l.length≤8192)(hm1:1≤m)(hm:m≤9223372036854775808):∀ (k i:Nat),sh m<k+i→i≤sh m→a+i≤l.length →
  (i=sh m→0<dd m→¬ bv ((l.drop a).take (sh m-1))<dd m) →
  vv F l (a:Int) (m:Int) (sh m:Int) k (((bv ((l.drop a).take i):Nat):Int),(i:Int))=some (lrI (flOf l a m))
 | 0,_,_,_,_,_=>by omega
 | k+1,i,h,hi,hai,hge=>by
  show qcc F l (a:Int) (m:Int) (sh m:Int) (vv F l (a:Int) (m:Int) (sh m:Int) k) ((bv ((l.drop a).take i):Nat):Int) (i:Int)=_
  unfold qcc
  have h63:=qiV hm
  have hadd:=qg9 hm1
  have hp:=pow64 h63
  have hb:=qkd (qfC (qeS hl a) i)
  rw[qye,qya,qzj (by omega)] at hb
  rw[if_pos (by simp;omega),qgT h63,qfM (by omega) (by omega),show 2^sh m-m=dd m from rfl,qG (by omega) (by omega)]
  by_cases h1:i+1=sh m∧bv ((l.drop a).take i)<dd m
  ·rw[if_pos (by simp;omega),jN (by omega)]
   have e:sh m-1=i:=by omega
   unfold flOf
   rw[if_pos (by omega),e,if_pos hai,if_pos h1.2]
   rfl
  ·rw[if_neg (by simp;omega)]
   by_cases h2:i=sh m
   ·rw[if_pos (by simp;omega)]
    simp only[lett]
    have hdb:dd m≤bv ((l.drop a).take i):=by
     by_cases h0:0<dd m
     ·obtain ⟨h3,_⟩:=qiC hm1 h0
      obtain ⟨x,_,hx⟩:=qi1 hl (a:=a) (s:=i) (by omega) (by omega)
      have:=hge h2 h0
      rw[← h2] at this
      omega
     ·omega
    have hp2:2^i=2^sh m:=by rw[h2]
    rw[qfM hdb (by omega),jN (by omega)]
    unfold flOf flR
    rw[← h2,if_pos hai]
    by_cases h0:0<dd m
    ·have:=hge h2 h0
     rw[← h2] at this
     rw[if_pos h0,if_pos (by omega),if_neg this]
     rfl
    ·rw[if_neg h0];rfl
   ·rw[if_neg (by simp;omega),jN (by omega)]
    by_cases h3:l.length≤a+i
    ·rw[if_pos (by simp;omega)]
     unfold flOf flR
     have hR:¬ a+sh m≤l.length:=by omega
     rw[if_neg hR]
     by_cases h0:0<dd m
     ·rw[if_pos h0]
      by_cases h4:a+(sh m-1)≤l.length
      ·have e:sh m-1=i:=by omega
       rw[if_pos h4,e,if_neg (by omega)];rfl
      ·rw[if_neg h4];rfl
     ·rw[if_neg h0];rfl
    ·rw[if_neg (by simp;omega),qs]
     obtain ⟨x,hx,hx2⟩:=qq0 hl (i:=a+i) (by omega)
     rw[hx]
     simp only[qxP,lett]
     have hpi:2^(i+1)≤2^sh m:=qyx (by decide) (by omega)
     rw[qzb] at hpi
     have ht:(l.drop a).take (i+1)=(l.drop a).take i++[(x:Int)]:=by
      rw[qzu,qyF,hx];rfl
     have hbn:bv ((l.drop a).take (i+1))=2*bv ((l.drop a).take i)+x:=by
      rw[ht,qkc];simp[bv];omega
     have e2:imul .u64 2 ((bv ((l.drop a).take i):Nat):Int)=((2*bv ((l.drop a).take i):Nat):Int):=by
      unfold imul;rw[zg (by omega) (by omega)];omega
     rw[e2,kn (by omega),qjm (by omega),← hbn,qw (by omega)]
     refine qju hl hlm hm1 hm k (i+1) (by omega) (by omega) (by omega) ?_
     intro h5 h6
     rw[← h5,qym]
     omega
theorem qnH {F a m:Nat}{l:qAE}(hF:20000≤F)(hl:Bit l)(hlm:l.length≤8192)(ha:a≤l.length)(hm1:1≤m)(hm:m≤9223372036854775808) :
  qeu F l (a:Int) (m:Int)=some (lrI (flOf l a m)):=by
 unfold qeu
 have h63:=qiV hm
 have key:∀ (k i:Nat),sh m<k+i→i≤sh m→vw F l (a:Int) (m:Int) k (i:Int)=some (lrI (flOf l a m)):=by
  intro k
  induction k with
  | zero=>intro i h1 h2;omega
  | succ k ih =>
   intro i h1 h2
   show qcd F l (a:Int) (m:Int) (vw F l (a:Int) (m:Int) k) (i:Int)=_
   unfold qcd
   have hc:decide ((0:Int)≤(i:Int))=true:=decide_eq_true (by omega)
   rw[hc]
   simp only[chk,if_true]
   rw[qr1 (by omega) hm1]
   by_cases hlt:i<sh m
   ·rw[if_pos (by simpa using hlt),qw (by omega)]
    exact ih (i+1) (by omega) (by omega)
   ·rw[if_neg (by simpa using hlt)]
    obtain rfl:i=sh m:=by omega
    unfold qd7
    rw[hc]
    simp only[chk,if_true]
    have:=qju (F:=F) (a:=a) hl hlm hm1 hm F 0 (by omega) (by omega) (by omega) (by
     intro h5 h6
     have:=qiC hm1 h6
     omega)
    rw[List.take_zero] at this
    exact this
 exact key F 0 (by omega) (by omega)
def ok3 (l:qAE):Int×qAE×Int:=((l.length:Int),pk l,0)
theorem qxl {a b:Nat}(h:a*b<18446744073709551616):imul .u64 (a:Int) (b:Int)=((a*b:Nat):Int):=by
 unfold imul
 rw[← qzo]
 generalize a*b=q at h
 exact zg (by omega) (by omega)
def en (p:Option (Nat×Nat)):Int×Int×Int:=match p with
 | none=>(0,0,7)
 | some p=>if 1099511627776<p.1 then (0,0,3) else ((p.1:Int),(p.2:Int),0)
theorem qsn {F n q:Nat}:qdN F (n:Int) (q:Int) true=some (en (some (n,q))):=by
 unfold qdN en
 rw[if_neg (by simp)]
 by_cases h:1099511627776<n
 ·simp only;rw[if_pos (by simp;omega),if_pos h]
 ·simp only;rw[if_neg (by simp;omega),if_neg h]
def zh (n k:Nat):Nat:=lg n/k
def zf (n k:Nat):Nat:=2^(zh n k*k)
def zt (n k:Nat):Nat:=2^(zh n k*k+k)
def ze (n k:Nat):qAE:=un (zh n k)++le (n+1-zf n k) (zt n k-zf n k)
theorem qqW (n k:Nat):Bit (ze n k):=vX (qoc _) (qwY _ _)
theorem qsd (n k:Nat):zf n k≤n+1:=by
 have h:zh n k*k≤lg n:=Nat.div_mul_le_self _ _
 exact qy7 (qyx (by decide) h) qrA
theorem qsf {n k:Nat}(hk:1≤k):n+1<zt n k:=by
 have h:lg n+1≤zh n k*k+k:=by
  have:=Nat.lt_mul_div_succ (lg n) hk
  unfold zh
  rw[Nat.mul_add,Nat.mul_one,qzV] at this
  omega
 exact qzH qrB (qyx (by decide) h)
theorem qmS {n k:Nat}(hn:n≤1099511627776)(hk2:k≤16):zh n k*k≤40∧zt n k≤72057594037927936:=by
 have h:zh n k*k≤lg n:=Nat.div_mul_le_self _ _
 have h40:=qeT hn
 refine ⟨by omega,?_⟩
 have:zt n k≤2^56:=qyx (by decide) (by omega)
 rwa [show (2:Nat)^56=72057594037927936 from by decide] at this
def Zk (k:Int):Prop:=1≤k∧k≤16
instance zkDec (k:Int):Decidable (Zk k):=inferInstanceAs (Decidable (_∧_))
theorem qxr {k:Int}(h:Zk k):∃ j:Nat,k=j∧1≤j∧j≤16:=by
 obtain ⟨j,rfl⟩:=qx0 (show 0≤k by have:=h.1;omega)
 exact ⟨j,rfl,by have:=h.1;omega,by have:=h.2;omega⟩
theorem qvZ {F n k:Nat}(hn:n≤1099511627776)(hk:1≤k)(hk2:k≤16):qeE F (n:Int) (k:Int)=some ((zh n k:Int),(zf n k:Int),(zt n k:Int)):=by
 unfold qeE
 obtain ⟨h40,h56⟩:=qmS hn hk2
 have hlen:len (n+1)=lg n+1:=by have:=qhE (x:=n+1) (by omega);unfold lg;omega
 have hl40:=qeT hn
 have hzl:zh n k≤lg n:=qzJ _ _
 have hc0:((k:Int) != 0)=true:=by rw[bne_iff_ne];omega
 rw[qfk (by omega),qku (by omega),hlen]
 simp only[qxP]
 rw[jZ (by omega) (by omega),qym]
 have e1:iquo .i64 (lg n:Int) (k:Int)=((zh n k:Nat):Int):=by
  unfold iquo zh
  rw[qyN (by omega),← Int.natCast_ediv]
  unfold zh at hzl
  generalize lg n/k=q at hzl
  exact qL (by omega) (by omega)
 have e2:imul .i64 ((zh n k:Nat):Int) (k:Int)=((zh n k*k:Nat):Int):=by
  unfold imul
  rw[← qzo]
  generalize zh n k*k=q at h40
  exact qL (by omega) (by omega)
 rw[e1,e2,jN (by omega),hc0]
 have c1:decide ((0:Int)≤((zh n k*k:Nat):Int))=true:=decide_eq_true (qAg _)
 have c2:decide ((0:Int)≤((zh n k*k+k:Nat):Int))=true:=decide_eq_true (qAg _)
 rw[c1,c2]
 simp only[chk,if_true]
 rw[qgT (by omega),qgT (by omega)]
 rfl
def gz (n k:Int):Int×qAE×Int:=if Zk k∧n≤1099511627776 then ok3 (ze n.toNat k.toNat) else (0,[],3)
theorem qwX {n k:Int}(h:¬ (Zk k∧n≤1099511627776)):gz n k=(0,[],3):=by unfold gz;rw[if_neg h]
theorem qrt {n k:Nat}(h:Zk k)(h2:n≤1099511627776):gz n k=ok3 (ze n k):=by unfold gz;rw[if_pos ⟨h,by omega⟩,qxU,qxU]
theorem qwu {F:Nat}(hF:20000≤F){n k:Int}(hn:U64 n):qeD F n k=some (gz n k):=by
 unfold qeD
 by_cases h:Zk k∧n≤1099511627776
 ·obtain ⟨n,rfl⟩:=qx0 hn.1
  obtain ⟨k,rfl,h1,h2⟩:=qxr h.1
  have hn2:n≤1099511627776:=by have:=h.2;omega
  have hl40:=qeT hn2
  have hzl:zh n k≤lg n:=qzJ _ _
  have a1:=qsd n k
  have a2:=qsf (n:=n) h1
  have a3:=(qmS hn2 h2).2
  rw[if_neg (by simp;omega),qvZ hn2 h1 h2,qrt h.1 hn2]
  simp only[qxP]
  rw[kn (by omega),qua hF (by omega),qfk (by omega),qfM a1 (by omega),qfM (by omega) (by omega)]
  simp only[qxP]
  rw[qoI hF (qoc _) (by rw[qhs];omega) (by omega) (by omega)]
  rfl
 ·rw[if_pos (by unfold Zk at h;simp;omega),qwX h]
def zq (k:Nat)(l:qAE)(i:Nat):Int×Int×Int:=match fz (l.drop i) with
 | none=>(0,0,7)
 | some h=>if 41≤h*k then (0,0,3) else en ((flOf l (i+h+1) (2^(h*k+k)-2^(h*k))).map fun p=>(2^(h*k)+p.1-1,p.2))
theorem qnQ {a k:Nat}(hk:1≤k):2*2^a≤2^(a+k):=by
 rw[← qz1];exact qyx (by decide) (by omega)
theorem qnP {a:Nat}(h:a≤56):2^a≤72057594037927936:=by
 have:2^a≤2^56:=qyx (by decide) h
 rwa [show (2:Nat)^56=72057594037927936 from by decide] at this
theorem qoY {F i k:Nat}{l:qAE}(hF:20000≤F)(hl:Bit l)(hlm:l.length≤8192)(hi:i≤l.length)(h1:1≤k)(h2:k≤16):qbw F (l.length:Int) (pk l) (i:Int) (k:Int)=some (zq k l i):=by
 unfold qbw
 rw[qrg hF hl hlm hi]
 unfold zq
 cases hz:fz (l.drop i) with
 | none=>rfl
 | some h =>
  have hq:=qrh hz
  rw[qya] at hq
  have hmul:h*k≤8192*16:=Nat.mul_le_mul (by omega) h2
  simp only[qxP,qyE,qxZ,if_false]
  rw[kn (by omega),qxl (by omega),jF (by omega)]
  by_cases h3:41≤h*k
  ·rw[if_pos (by simp only[decide_eq_true_eq];omega),if_pos h3]
  ·rw[if_neg (by simp only[decide_eq_true_eq];omega),if_neg h3]
   have e2:imul .i64 (h:Int) (k:Int)=((h*k:Nat):Int):=by
    unfold imul
    rw[← qzo]
    generalize h*k=q at hmul
    exact qL (by omega) (by omega)
   have c1:decide ((0:Int)≤((h*k:Nat):Int))=true:=decide_eq_true (qAg _)
   have c2:decide ((0:Int)≤(k:Int))=true:=decide_eq_true (by omega)
   rw[e2,c1,c2]
   simp only[chk,if_true,lett]
   have p1:=qnP (a:=h*k) (by omega)
   have p2:=qnP (a:=h*k+k) (by omega)
   have p3:=qnQ (a:=h*k) h1
   have p0:0<2^(h*k):=qzh (by decide)
   rw[qgT (by omega),qik (by omega),← qzz,qyp (by omega),qfM (by omega) (by omega)]
   have:=qnw (a:=i+h+1) (m:=2^(h*k+k)-2^(h*k)) hF hl hlm (by omega) (by omega) (by omega)
   cases hf:flOf l (i+h+1) (2^(h*k+k)-2^(h*k)) with
   | none =>
    rw[hf] at this
    obtain ⟨x,y,e⟩:=this
    rw[e];rfl
   | some p =>
    rw[hf] at this
    simp only at this
    have hp:=qto hl (n:=p.1) (q:=p.2) (by omega) hf
    rw[this]
    simp only[qxP]
    rw[qjm (by omega),qhS (by omega) (by omega),qsn]
    rfl
theorem qd4 {n:Nat}(hn:n≤1099511627776):(ga n).length≤81:=by rw[qnx];have:=qeT hn;omega
theorem qvD (p:Nat×Nat):lrI (some p)=((p.1:Int),(p.2:Int)):=rfl
theorem qlb {F n k:Nat}(hn:n≤1099511627776)(h1:1≤k)(h2:k≤16):∀ (j h:Nat),zh n k<j+h→h≤zh n k →
  je F (n:Int) (k:Int) j ((h:Int),((2^(h*k):Nat):Int))=some ((zh n k:Int),(zf n k:Int),(zt n k:Int))
 | 0,_,_,_=>by omega
 | j+1,h,hh,hi=>by
  show qc6 F (n:Int) (k:Int) (je F (n:Int) (k:Int) j) (h:Int) ((2^(h*k):Nat):Int)=_
  unfold qc6
  obtain ⟨h40,h56⟩:=qmS hn h2
  have hhk:h*k≤zh n k*k:=qyq k hi
  have c2:decide ((0:Int)≤(k:Int))=true:=decide_eq_true (by omega)
  have p1:=qnP (a:=h*k+k) (by omega)
  rw[c2]
  simp only[chk,if_true]
  rw[qik (by omega),← qzz,qyp (by omega),qfk (by omega)]
  have hle:=qrA (n:=n)
  have hlt:=qrB (n:=n)
  by_cases h3:h<zh n k
  ·have h4:h*k+k≤zh n k*k:=by rw[← qyT];exact qyq k h3
   have h5:=qsd n k
   have h6:2^(h*k+k)≤zf n k:=qyx (by decide) h4
   rw[if_pos (by simp only[decide_eq_true_eq];omega),qfk (by have:=qeT hn;have:zh n k≤lg n:=qzJ _ _;omega)]
   have e:h*k+k=(h+1)*k:=by rw[qyT]
   rw[e]
   exact qlb hn h1 h2 j (h+1) (by omega) (by omega)
  ·obtain rfl:h=zh n k:=by omega
   have h5:=qsf (n:=n) h1
   unfold zt at h5
   rw[if_neg (by simp only[decide_eq_true_eq];omega)]
   unfold qeZ
   rw[c2]
   simp only[chk,if_true]
   rw[qik (by omega),← qzz,qyp (by omega)]
   rfl
theorem qpT {F n k:Nat}(hF:20000≤F)(hn:n≤1099511627776)(h1:1≤k)(h2:k≤16):qe7 F (n:Int) (k:Int)=some (ze n k):=by
 unfold qe7 qgG
 have hl40:=qeT hn
 have hzl:zh n k≤lg n:=qzJ _ _
 have a1:=qsd n k
 have a2:=qsf (n:=n) h1
 have a3:=(qmS hn h2).2
 have a4:=qiV (m:=zt n k-zf n k) (by omega)
 have:=qlb (F:=F) hn h1 h2 F 0 (by omega) (by omega)
 rw[Nat.zero_mul,Nat.pow_zero] at this
 rw[show (((0:Nat):Int),((1:Nat):Int))=((0:Int),(1:Int)) from rfl] at this
 rw[this]
 simp only[qxP]
 rw[qod (by omega) (by omega)]
 simp only[qxP]
 rw[qfk (by omega),qfM a1 (by omega),qfM (by omega) (by omega),qnG hF (by omega) (by omega)]
 simp only[qxP]
 have hll:=qqj (n+1-zf n k) (zt n k-zf n k)
 rw[qD (by rw[qhs];split at hll <;> omega)]
 rfl
theorem qla {F k q h:Nat}{l:qAE}{x:Int×Int}(hx:x.1=(h:Int))(hx2:x.2=(q:Int))(hF:20000≤F)(hl:Bit l)(hlm:l.length≤8192)(hq:q≤l.length)(h1:1≤k)(h2:k≤16)(h41:h*k≤40):∀ (j i:Nat),h<j+i→i≤h →
  jd F l (k:Int) x j (((2^(i*k):Nat):Int),(i:Int))=some (en ((flOf l q (2^(h*k+k)-2^(h*k))).map fun p=>(2^(h*k)+p.1-1,p.2)))
 | 0,_,_,_=>by omega
 | j+1,i,hh,hi=>by
  show qc5 F l (k:Int) x (jd F l (k:Int) x j) ((2^(i*k):Nat):Int) (i:Int)=_
  unfold qc5
  have c2:decide ((0:Int)≤(k:Int))=true:=decide_eq_true (by omega)
  have hik:i*k≤h*k:=qyq k hi
  have hhk:h≤h*k:=qzE h (by omega)
  have p1:=qnP (a:=i*k+k) (by omega)
  rw[hx]
  by_cases h3:i<h
  ·rw[if_pos (by simp;omega),c2]
   simp only[chk,if_true]
   rw[qik (by omega),← qzz,qyp (by omega),qfk (by omega)]
   have e:i*k+k=(i+1)*k:=by rw[qyT]
   rw[e]
   exact qla hx hx2 hF hl hlm hq h1 h2 h41 j (i+1) (by omega) (by omega)
  ·obtain rfl:i=h:=by omega
   rw[if_neg (by simp)]
   unfold qeY
   have p3:=qnQ (a:=i*k) h1
   have p0:0<2^(i*k):=qzh (by decide)
   rw[c2,hx2]
   simp only[chk,if_true]
   rw[qik (by omega),← qzz,qyp (by omega),qfM (by omega) (by omega),qnH hF hl hlm hq (by omega) (by omega)]
   simp only[qxP]
   cases hf:flOf l q (2^(i*k+k)-2^(i*k)) with
   | none=>rfl
   | some p =>
    have hp:=qto hl (n:=p.1) (q:=p.2) (by omega) hf
    rw[qvD]
    simp only
    rw[if_neg (by simp),qjm (by omega),qhS (by omega) (by omega)]
    simp only[qyy,en]
    by_cases h4:1099511627776<2^(i*k)+p.1-1
    ·rw[if_pos (by simp only[decide_eq_true_eq];omega),if_pos h4]
    ·rw[if_neg (by simp only[decide_eq_true_eq];omega),if_neg h4]
theorem qpU {F i k:Nat}{l:qAE}(hF:20000≤F)(hl:Bit l)(hlm:l.length≤8192)(hi:i≤l.length)(h1:1≤k)(h2:k≤16):qe8 F l (i:Int) (k:Int)=some (zq k l i):=by
 unfold qe8 zq
 rw[qi3 (by omega) hF hi]
 simp only[qxP]
 cases hz:fz (l.drop i) with
 | none=>rfl
 | some h =>
  have hq:=qrh hz
  rw[qya] at hq
  simp only
  have hmul:h*k≤8192*16:=Nat.mul_le_mul (by omega) h2
  have hhk:h≤h*k:=qzE h (by omega)
  have e2:imul .i64 (h:Int) (k:Int)=((h*k:Nat):Int):=by
   unfold imul
   rw[← qzo]
   generalize h*k=q at hmul
   exact qL (by omega) (by omega)
  rw[if_neg (by simp;omega),jF (by omega),e2]
  by_cases h3:41≤h*k
  ·rw[if_pos (by simp only[qyZ,decide_eq_true_eq];omega),if_pos h3]
  ·rw[if_neg (by simp only[qyZ,decide_eq_true_eq];omega),if_neg h3]
   have:=qla (F:=F) (x:=((h:Int),((i+h+1:Nat):Int))) rfl rfl hF hl hlm (by omega) h1 h2 (by omega) F 0 (by omega) (by omega)
   rw[Nat.zero_mul,Nat.pow_zero] at this
   exact this
theorem qtM {n m:Nat}(hm:m≤9223372036854775808):(le n m).length≤63:=by
 have:=qqj n m;have:=qiV hm;split at*<;> omega
theorem qqX {n k:Nat}(hn:n≤1099511627776)(hk2:k≤16):(ze n k).length≤200:=by
 have hzl:zh n k≤lg n:=qzJ _ _
 have hl40:=qeT (n:=n) (by omega)
 have a3:=(qmS (n:=n) (by omega) hk2).2
 have hle:=qtM (n:=n+1-zf n k) (m:=zt n k-zf n k) (by omega)
 unfold ze;rw[qxQ,qhs];omega
def foldOf (x:Int):Int:=if x<0 then 2*(-(x+1))+1 else 2*x
theorem qoh {x:Int}(h1:-9223372036854775808≤x)(h2:x<0):IntKind.wrap .u64 x=x+18446744073709551616:=by
 rw[qaT];omega
theorem qvd (n:Nat)(h:n<18446744073709551616):ixor .u64 (n:Int) 18446744073709551615=18446744073709551615-(n:Int):=by
 unfold ixor
 have h1:(qyr (IntKind.bits .u64) (n:Int))=qyJ 64 n:=by simp[IntKind.bits]
 have h2:(qyr (IntKind.bits .u64) (18446744073709551615:Int))=qzm 64:=by show qyr 64 _=_;decide
 rw[h1,h2]
 have h3:(qyJ 64 n ^^^ qzm 64) = ~~~ (qyJ 64 n):=BitVec.xor_allOnes
 have h4:(qyJ 64 n ^^^ qzm 64).toNat=18446744073709551615-n:=by
  rw[h3,BitVec.toNat_not,qza]
  omega
 show IntKind.wrap .u64 ((qyJ 64 n ^^^ qzm 64).toNat:Int)=_
 rw[h4,zg (by omega) (by omega)]
 omega
theorem qqV (n:Nat)(h:n<18446744073709551616):ixor .u64 (n:Int) 0=(n:Int):=by
 unfold ixor
 have h1:(qyr (IntKind.bits .u64) (n:Int))=qyJ 64 n:=by simp[IntKind.bits]
 have h2:(qyr (IntKind.bits .u64) (0:Int))=0#64:=by show qyr 64 _=_;decide
 rw[h1,h2]
 show IntKind.wrap .u64 ((qyJ 64 n ^^^ 0#64).toNat:Int)=_
 rw[BitVec.xor_zero,qza,qyp (by omega),zg (by omega) (by omega)]
theorem qqT (n:Nat)(h:n<9223372036854775808):ixor .i64 (n:Int) (-1)=-(n:Int)-1:=by
 unfold ixor
 have h1:(qyr (IntKind.bits .i64) (n:Int))=qyJ 64 n:=by simp[IntKind.bits]
 have h2:(qyr (IntKind.bits .i64) (-1:Int))=qzm 64:=by show qyr 64 _=_;decide
 rw[h1,h2]
 have h3:(qyJ 64 n ^^^ qzm 64) = ~~~ (qyJ 64 n):=BitVec.xor_allOnes
 have h4:(qyJ 64 n ^^^ qzm 64).toNat=18446744073709551615-n:=by
  rw[h3,BitVec.toNat_not,qza]
  omega
 show IntKind.wrap .i64 ((qyJ 64 n ^^^ qzm 64).toNat:Int)=_
 rw[h4]
 unfold IntKind.wrap
 simp only[IntKind.bits,IntKind.signed,show (2^64:Int)=18446744073709551616 from by decide,show (2^(64-1):Int)=9223372036854775808 from by decide]
 rw[if_pos (by simp;omega)]
 omega
theorem qqU (n:Nat)(h:n<9223372036854775808):ixor .i64 (n:Int) 0=(n:Int):=by
 unfold ixor
 have h1:(qyr (IntKind.bits .i64) (n:Int))=qyJ 64 n:=by simp[IntKind.bits]
 have h2:(qyr (IntKind.bits .i64) (0:Int))=0#64:=by show qyr 64 _=_;decide
 rw[h1,h2]
 show IntKind.wrap .i64 ((qyJ 64 n ^^^ 0#64).toNat:Int)=_
 rw[BitVec.xor_zero,qza,qyp (by omega),qL (by omega) (by omega)]
theorem qrf (F:Nat){x:Int}(h1:-9223372036854775808≤x)(h2:x<9223372036854775808):qcQ F x=some (foldOf x):=by
 unfold qcQ lett foldOf
 have hs:ishr .i64 x 63=x/9223372036854775808:=by
  have:=qhz (k:=.i64) (a:=x) (m:=63) (by decide)
  rw[show ((63:Nat):Int)=63 from rfl,show (2:Int)^63=9223372036854775808 from by decide] at this
  exact this
 have hl:∀ y:Int,ishl .u64 y 1=(y*2)%18446744073709551616:=fun y=>qiI (a:=y) (m:=1) (by decide)
 rw[hs,hl]
 by_cases hx:x<0
 ·rw[if_pos hx,show x/9223372036854775808=-1 from by omega]
  have e1:iconv .u64 x=x+18446744073709551616:=qoh h1 hx
  have e2:iconv .u64 (-1)=18446744073709551615:=by decide
  rw[e1,e2,show (x+18446744073709551616)*2%18446744073709551616=(((2*x+18446744073709551616).toNat:Nat):Int) from by omega,qvd _ (by omega)]
  congr 1
  omega
 ·rw[if_neg hx,show x/9223372036854775808=0 from by omega]
  have e1:iconv .u64 x=x:=zg (by omega) (by omega)
  have e2:iconv .u64 0=0:=by decide
  rw[e1,e2,show x*2%18446744073709551616=((2*x).toNat:Int) from by omega,qqV _ (by omega)]
  congr 1
  omega
theorem ql2 (F:Nat){x:Int}(h1:-9223372036854775808≤x)(h2:x<9223372036854775808):qfn F x=some (foldOf x):=by
 unfold qfn lett foldOf
 by_cases hx:x<0
 ·simp only[hx,decide_true,if_true]
  have e1:iadd .i64 x 1=x+1:=qA (by omega) (by omega)
  have e2:isub .i64 0 (x+1)=-(x+1):=by rw[qG (by omega) (by omega)];omega
  have e3:iconv .u64 (-(x+1))=-(x+1):=zg (by omega) (by omega)
  rw[e1,e2,e3]
  unfold imul iadd
  rw[zg (n:=2*-(x+1)) (by omega) (by omega),zg (by omega) (by omega)]
 ·simp only[hx,decide_false,qxZ,if_false]
  have e3:iconv .u64 x=x:=zg (by omega) (by omega)
  rw[e3]
  unfold imul
  rw[zg (by omega) (by omega)]
def q8 (n:Int):Int:=if n%2=0 then n/2 else -(n/2)-1
theorem qmN (F:Nat){n:Int}(h1:0≤n)(h2:n<18446744073709551616):qa5 F n=some (q8 n):=by
 unfold qa5 lett q8
 have hs:ishr .u64 n 1=n/2:=by
  have:=qhz (k:=.u64) (a:=n) (m:=1) (by decide)
  simpa using this
 have ha:iand .u64 n 1=n%2:=by
  have:=qgv (k:=.u64) (a:=n) (m:=1) h1 (by simpa[IntKind.bits] using h2) (by decide) rfl
  simpa using this
 have e1:iconv .i64 (n/2)=n/2:=qL (by omega) (by omega)
 have e2:iconv .i64 (n%2)=n%2:=qL (by omega) (by omega)
 rw[hs,ha,e1,e2]
 by_cases h:n%2=0
 ·rw[if_pos h,h,show isub .i64 0 0=0 from by decide,show n/2=((n/2).toNat:Int) from by omega,qqU _ (by omega)]
 ·rw[if_neg h,show n%2=1 from by omega,show isub .i64 0 1=-1 from by decide,show n/2=((n/2).toNat:Int) from by omega,qqT _ (by omega)]
theorem qht (x:Int):q8 (foldOf x)=x:=by
 unfold q8 foldOf
 split <;> split <;> omega
theorem qoX {n:Int}(h:0≤n):foldOf (q8 n)=n:=by
 unfold q8 foldOf
 split <;> split <;> omega
theorem qjX {F:Nat}{x:Int}:qdu F x=some (decide (0≤x∧x≤1048576)):=by
 unfold qdu
 congr 1
 by_cases h:0≤x <;> by_cases h2:x≤1048576 <;> simp[h,h2]
def gk:Int→qAE→Int
 | _,[]=>0
 | last,n::l=>if 0≤n∧n≤1048576 then (if n≤last then 4 else gk n l) else 3
def gkc (l:qAE):Int:=if 300<l.length then 2 else gk (-1) l
theorem qo0 {F:Nat}{l:qAE}(hm:l.length≤300):∀ (k i:Nat) (last:Int),l.length<k+i→i≤l.length →
  jf F l k (last,(i:Int))=some (gk last (l.drop i))
 | 0,_,_,_,_=>by omega
 | k+1,i,last,h,hi=>by
  show qc8 F l (jf F l k) last (i:Int)=_
  unfold qc8
  by_cases hlt:i<l.length
  ·rw[if_pos (by simp;omega),qs,qxR hlt,qxT hlt,gk]
   simp only[qxP]
   rw[qjX]
   simp only[qxP]
   by_cases h1:0≤l[i]∧l[i]≤1048576
   ·rw[decide_eq_true h1,if_pos h1,if_neg (by simp)]
    by_cases h2:l[i]≤last
    ·rw[if_pos h2,if_pos (by simpa using h2)]
    ·rw[if_neg h2,if_neg (by simpa using h2),qw (by omega)]
     exact qo0 hm k (i+1) _ (by omega) (by omega)
   ·rw[decide_eq_false h1,if_neg h1,if_pos (by simp)]
  ·rw[if_neg (by simp;omega),qxW (by omega)]
   rfl
theorem qgu {F:Nat}(hF:20000≤F){l:qAE}:jB F l=some (gkc l):=by
 unfold jB gkc
 by_cases h:300<l.length
 ·rw[if_pos (by simp;omega),if_pos h]
 ·rw[if_neg (by simp;omega),if_neg h]
  exact qo0 (by omega) F 0 (-1) (by omega) (by omega)
theorem qps {F:Nat}{l:qAE}(hm:l.length≤300):∀ (k i:Nat) (last:Int),l.length<k+i→i≤l.length→(i=0∧last=-1∨0<i∧l[i-1]?=some last) →
  zV F l k (i:Int)=some (gk last (l.drop i))
 | 0,_,_,_,_,_=>by omega
 | k+1,i,last,h,hi,hlast=>by
  show jV F l (zV F l k) (i:Int)=_
  unfold jV
  by_cases hlt:i<l.length
  ·rw[if_pos (by simp;omega),qs,qxR hlt,qxT hlt,gk]
   simp only[qxP]
   rw[qdq]
   simp only[qxP]
   by_cases h1:0≤l[i]∧l[i]≤1048576
   ·rw[decide_eq_true h1,if_pos h1,if_neg (by simp)]
    have hrec:zV F l k ((i+1:Nat):Int)=some (gk l[i] (l.drop (i+1))) :=
     qps hm k (i+1) _ (by omega) (by omega) (.inr ⟨by omega,by rw[qym,qxR hlt]⟩)
    rcases hlast with ⟨rfl,rfl⟩ | ⟨h0,hl⟩
    ·rw[if_neg (by simp)]
     unfold vi
     rw[if_neg (by simp),if_neg (show ¬ l[0]≤-1 by omega),qw (by omega)]
     exact hrec
    ·rw[if_pos (by simp;omega),jZ (by omega) (by omega),qs,hl]
     simp only[qxP,vi]
     by_cases h2:l[i]≤last
     ·rw[if_pos h2,if_pos (by simpa using h2)]
     ·rw[if_neg h2,if_neg (by simpa using h2),qw (by omega)]
      exact hrec
   ·rw[decide_eq_false h1,if_neg h1,if_pos (by simp)]
  ·rw[if_neg (by simp;omega),qxW (by omega)]
   rfl
theorem qhH {F:Nat}(hF:20000≤F){l:qAE}:ja F l=some (gkc l):=by
 unfold ja gkc
 by_cases h:300<l.length
 ·rw[if_pos (by simp;omega),if_pos h]
 ·rw[if_neg (by simp;omega),if_neg h]
  exact qps (by omega) F 0 (-1) (by omega) (by omega) (.inl ⟨rfl,rfl⟩)
def Ris:Int→qAE→Prop
 | _,[]=>True
 | last,n::l=>(0≤n∧n≤1048576)∧last<n∧Ris n l
theorem qtC:∀ {last:Int} {l:qAE},gk last l=0↔Ris last l
 | _,[]=>by simp[gk,Ris]
 | last,n::l=>by
  unfold gk Ris
  by_cases h1:0≤n∧n≤1048576
  ·rw[if_pos h1]
   by_cases h2:n≤last
   ·rw[if_pos h2];simp;omega
   ·rw[if_neg h2,qtC];simp[h1];omega
  ·rw[if_neg h1];simp;omega
theorem zn {l:qAE}:gkc l=0↔(l.length≤300∧Ris (-1) l):=by
 unfold gkc
 by_cases h:300<l.length
 ·rw[if_pos h];simp;omega
 ·rw[if_neg h,qtC];simp;omega
def Nd (x:Int):Prop:=0≤x∧x≤1048576
instance ndDec (x:Int):Decidable (Nd x):=inferInstanceAs (Decidable (_∧_))
def gp:Bool→Int→qAE→qAE
 | _,_,[]=>[]
 | b,a,n::l=>(if b then n-a-1 else foldOf (n-a))::gp true n l
theorem qdX:∀ (b:Bool) (a:Int) (l:qAE),(gp b a l).length=l.length
 | _,_,[]=>rfl
 | b,a,n::l=>by rw[gp,qxY,qxY,qdX]
theorem qwV {F:Nat}{a n:Int}{b:Bool}(ha:Nd a)(hn:Nd n)(hb:b=true→a<n):qbv F a b n=some (if b then n-a-1 else foldOf (n-a),n,true):=by
 unfold qbv
 have h1:=ha.1;have h2:=ha.2;have h3:=hn.1;have h4:=hn.2
 cases b with
 | true =>
  have:=hb rfl
  rw[if_pos rfl,if_pos rfl,qG (a:=n) (b:=a) (by omega) (by omega),qG (a:=n-a) (by omega) (by omega)]
  have e:iconv .u64 (n-a-1)=n-a-1:=zg (by omega) (by omega)
  rw[e];rfl
 | false =>
  rw[if_neg (by simp),if_neg (by simp),qG (by omega) (by omega),qrf F (by omega) (by omega)]
  rfl
theorem qtE {F:Nat}{l:qAE}(hm:l.length≤300):∀ (k i:Nat) (a:Int) (b:Bool) (o:qAE),l.length<k+i→i≤l.length→Nd a→(b=true→Ris a (l.drop i))→(b=false→∃ q,Ris q (l.drop i))→o.length+(l.length-i)≤1000 →
  qbd F l k (o,(i:Int),a,b)=some (o++gp b a (l.drop i))
 | 0,_,_,_,_,_,_,_,_,_,_=>by omega
 | k+1,i,a,b,o,h,hi,ha,hb,hb2,ho=>by
  show qeC F l (qbd F l k) o (i:Int) a b=_
  unfold qeC
  by_cases hlt:i<l.length
  ·rw[qxT hlt] at hb hb2 ⊢
   have hx:Nd l[i]∧Ris l[i] (l.drop (i+1)):=by
    cases b with
    | true=>have:=hb rfl;exact ⟨this.1,this.2.2⟩
    | false=>obtain ⟨q,hq⟩:=hb2 rfl;exact ⟨hq.1,hq.2.2⟩
   rw[if_pos (by simp;omega),qs,qxR hlt]
   simp only[qxP]
   rw[qwV ha hx.1 (fun h=>(hb h).2.1)]
   simp only[qxP]
   rw[qD (by simp;omega),qw (by omega)]
   simp only[qxP]
   rw[qtE hm k (i+1) _ _ _ (by omega) (by omega) hx.1 (fun _=>hx.2) (fun h=>by cases h) (by simp;omega)]
   rw[gp]
   simp
  ·rw[if_neg (by simp;omega),qxW (by omega)]
   simp[qgg,gp]
theorem qrr {F:Nat}(hF:20000≤F){l:qAE}{a q:Int}(hm:l.length≤300)(ha:Nd a)(hr:Ris q l):qec F l a=some (gp false a l):=by
 unfold qec
 have:=qtE (F:=F) hm F 0 a false [] (by omega) (by omega) ha (fun h=>by cases h) (fun _=>⟨q,by rw[qx8];exact hr⟩) (by simp;omega)
 rw[qx8,qx6] at this
 exact this
def ggOf (l:qAE)(a:Int):Int:=if gkc l≠0 then gkc l else if Nd a then 0 else 3
def gg (l:qAE)(a:Int):qAE×Int:=if ggOf l a≠0 then ([],ggOf l a) else (gp false a l,0)
theorem qkl {F:Nat}{l:qAE}{at_ q:Int}(hm:l.length≤300)(ha:Nd at_)(hr:Ris q l):∀ (k i:Nat) (a:Int) (o:qAE),l.length<k+i→i≤l.length→(i=0∧a=at_∨0<i∧l[i-1]?=some a∧Nd a∧Ris a (l.drop i))→o.length+(l.length-i)≤1000 →
  jK F l at_ k (o,(i:Int))=some (o++gp (decide (0<i)) a (l.drop i))
 | 0,_,_,_,_,_,_,_=>by omega
 | k+1,i,a,o,h,hi,hinv,ho=>by
  show qer F l at_ (jK F l at_ k) o (i:Int)=_
  unfold qer
  by_cases hlt:i<l.length
  ·rw[if_pos (by simp;omega)]
   rcases hinv with ⟨rfl,rfl⟩ | ⟨h0,h1,h2,h3⟩
   ·obtain ⟨n,l',rfl⟩:∃ n l',l=n::l':=by cases l with | nil=>simp at hlt | cons n l'=>exact ⟨n,l',rfl⟩
    have hn:=hr.1
    rw[if_pos (by simp)]
    have hix:idx (n::l') 0=some n:=rfl
    rw[hix]
    simp only[qxP]
    have b1:=ha.1;have b2:=ha.2;have b3:=hn.1;have b4:=hn.2
    rw[qG (by omega) (by omega),ql2 F (by omega) (by omega)]
    simp only[qxP]
    rw[qD (by simp;omega)]
    simp only[qxP,qcJ]
    rw[qw (by omega),qkl hm ha hr k 1 n _ (by omega) (by simp) (.inr ⟨by omega,rfl,hn,hr.2.2⟩) (by simp at ho ⊢;omega)]
    simp[gp]
   ·rw[qxT hlt] at h3 ⊢
    have hx:=h3.1
    have b1:=h2.1;have b2:=h2.2;have b3:=hx.1;have b4:=hx.2;have b5:=h3.2.1
    rw[if_neg (by simp;omega),qs,qxR hlt]
    simp only[qxP]
    rw[jZ (by omega) (by omega),qs,h1]
    simp only[qxP]
    rw[qG (a:=l[i]) (b:=a) (by omega) (by omega),qG (a:=l[i]-a) (by omega) (by omega)]
    have e:iconv .u64 (l[i]-a-1)=l[i]-a-1:=zg (by omega) (by omega)
    rw[e,qD (by simp;omega)]
    simp only[qxP,qcJ]
    rw[qw (by omega),qkl hm ha hr k (i+1) l[i] _ (by omega) (by omega) (.inr ⟨by omega,by rw[qym,qxR hlt],hx,h3.2.2⟩) (by simp;omega)]
    have hd:decide (0<i)=true:=decide_eq_true h0
    rw[hd,gp]
    simp
  ·rw[if_neg (by simp;omega),qxW (by omega)]
   simp[qga,gp]
theorem ql3 {F:Nat}(hF:20000≤F){l:qAE}{a q:Int}(hm:l.length≤300)(ha:Nd a)(hr:Ris q l):qfo F l a=some (gp false a l):=by
 unfold qfo
 have:=qkl (F:=F) hm ha hr F 0 a [] (by omega) (by omega) (.inl ⟨rfl,rfl⟩) (by simp;omega)
 rw[qx8,qx6] at this
 exact this
def st (b:Bool)(a g:Int):Option Int:=if 2097152<g then none else if Nd (if b then a+g+1 else a+q8 g) then some (if b then a+g+1 else a+q8 g) else none
theorem qmA {b:Bool}{a g n:Int}(h:st b a g=some n):Nd n∧g≤2097152∧n=(if b then a+g+1 else a+q8 g):=by
 unfold st at h
 by_cases h1:2097152<g
 ·rw[if_pos h1] at h;simp at h
 ·rw[if_neg h1] at h
  by_cases h2:Nd (if b then a+g+1 else a+q8 g)
  ·rw[if_pos h2] at h
   have:=qzp h
   exact ⟨this▸h2,by omega,this.symm⟩
  ·rw[if_neg h2] at h;simp at h
theorem qr4 {F:Nat}{a g:Int}{b:Bool}(ha:Nd a)(hg:U64 g):match st b a g with
  | none=>∃ x y,kj F a b g=some (false,x,y)
  | some n=>kj F a b g=some (true,n,true):=by
 have h1:=ha.1;have h2:=ha.2;have h3:=hg.1;have h4:=hg.2
 by_cases h:2097152<g
 ·have e:st b a g=none:=by unfold st;rw[if_pos h]
  rw[e]
  unfold kj
  rw[if_pos (by simpa using h)]
  exact ⟨_,_,rfl⟩
 ·have hu:-1048577≤q8 g∧q8 g≤1048577:=by unfold q8;split <;> omega
  have hM:kj F a b g=some (decide (Nd (if b then a+g+1 else a+q8 g)),(if b then a+g+1 else a+q8 g),true):=by
   unfold kj
   rw[if_neg (by simpa using h)]
   cases b with
   | true =>
    have e:iconv .i64 g=g:=qL (by omega) (by omega)
    rw[if_pos rfl,e,qA (a:=g) (by omega) (by omega),qA (by omega) (by omega)]
    unfold yo
    rw[qjX,show a+(g+1)=a+g+1 from by omega]
    rfl
   | false =>
    rw[if_neg (by simp),qmN F h3 h4]
    simp only[qxP]
    rw[qA (by omega) (by omega)]
    unfold yo
    rw[qjX]
    rfl
  rw[hM]
  unfold st
  rw[if_neg h]
  by_cases h5:Nd (if b then a+g+1 else a+q8 g)
  ·rw[if_pos h5]
   simp only
   rw[decide_eq_true h5]
  ·rw[if_neg h5,decide_eq_false h5]
   exact ⟨_,_,rfl⟩
theorem qrw {g:Int}(h:0≤g):irem g 2=g%2:=by unfold irem;rw[qzd h]
theorem qij {F:Nat}{a g:Int}{b:Bool}(ha:Nd a)(hg:U64 g):qbP F g a (!b)=some (match st b a g with | none=>-1 | some n=>n):=by
 have h1:=ha.1;have h2:=ha.2;have h3:=hg.1;have h4:=hg.2
 unfold qbP
 have hj:∀ n:Int,j4 F n=some (if Nd n then n else -1):=by
  intro n
  unfold j4
  rw[qdq]
  simp only[qxP]
  by_cases h:Nd n
  ·have:decide (0≤n∧n≤1048576)=true:=decide_eq_true h
   rw[this,if_pos h];rfl
  ·have:decide (0≤n∧n≤1048576)=false:=decide_eq_false h
   rw[this,if_neg h];rfl
 by_cases h:4194304<g
 ·have e:st b a g=none:=by unfold st;rw[if_pos (by omega)]
  rw[if_pos (by simpa using h),e]
 ·have e:iconv .i64 g=g:=qL (by omega) (by omega)
  have eq:iquo .i64 g 2=g/2:=by unfold iquo;rw[qyN h3,qL (by omega) (by omega)]
  have hst:st b a g=if Nd (if b then a+g+1 else a+q8 g) then some (if b then a+g+1 else a+q8 g) else none:=by
   unfold st
   by_cases h5:2097152<g
   ·rw[if_pos h5,if_neg]
    intro hn
    have hn1:=hn.1;have hn2:=hn.2
    cases b with
    | true=>simp only[if_true] at hn2;omega
    | false =>
     simp only[qxZ,if_false] at hn1 hn2
     unfold q8 at hn1 hn2
     split at hn1 <;> omega
   ·rw[if_neg h5]
  rw[if_neg (by simpa using h),e,eq,hst,qrw h3]
  simp only[lett]
  cases b with
  | true =>
   rw[qA (a:=a) (b:=g) (by omega) (by omega),qA (a:=a+g) (b:=1) (by omega) (by omega)]
   simp only[qyE,qxZ,if_false,if_true]
   rw[hj]
   by_cases h6:Nd (a+g+1) <;> simp[h6]
  | false =>
   simp only[qzO,if_true,qxZ,if_false]
   by_cases h7:g%2=1
   ·have hun:q8 g=-(g/2)-1:=by unfold q8;rw[if_neg (by omega)]
    rw[if_pos (by simpa using h7),qG (a:=a) (b:=g/2) (by omega) (by omega),qG (a:=a-g/2) (b:=1) (by omega) (by omega),hj,hun,show a-g/2-1=a+(-(g/2)-1) from by omega]
    by_cases h6:Nd (a+(-(g/2)-1)) <;> simp[h6]
   ·have hun:q8 g=g/2:=by unfold q8;rw[if_pos (by omega)]
    rw[if_neg (by simpa using h7),qA (by omega) (by omega),hj,hun]
    by_cases h6:Nd (a+g/2) <;> simp[h6]
def bk:Bool→Int→qAE→Option (qAE)
 | _,_,[]=>some []
 | b,a,g::l=>(st b a g).bind fun n=>(bk true n l).map (n::·)
theorem qs8 {F:Nat}{l:qAE}(hn:N64 l)(hm:l.length≤300):∀ (k i:Nat) (a:Int) (b:Bool) (o:qAE),l.length<k+i→i≤l.length→Nd a→o.length+(l.length-i)≤1000 →
  qag F l k (o,(i:Int),a,b)=some (match bk b a (l.drop i) with | none=>([],3) | some r=>(o++r,0))
 | 0,_,_,_,_,_,_,_,_=>by omega
 | k+1,i,a,b,o,h,hi,ha,ho=>by
  show qdL F l (qag F l k) o (i:Int) a b=_
  unfold qdL
  by_cases hlt:i<l.length
  ·have hg:=hn _ (qx9 hlt)
   rw[if_pos (by simp;omega),qs,qxR hlt,qxT hlt,bk]
   simp only[qxP]
   have hs:=qr4 (F:=F) (b:=b) ha (g:=l[i]) hg
   cases hst:st b a l[i] with
   | none =>
    rw[hst] at hs
    obtain ⟨x,y,e⟩:=hs
    rw[e];rfl
   | some n =>
    rw[hst] at hs
    simp only at hs
    rw[hs]
    simp only[qxP,qyE,qxZ,if_false]
    rw[qD (by simp;omega),qw (by omega)]
    simp only[qxP]
    rw[qs8 hn hm k (i+1) _ _ _ (by omega) (by omega) (qmA hst).1 (by simp;omega)]
    cases bk true n (l.drop (i+1)) with
    | none=>rfl
    | some r=>simp
  ·rw[if_neg (by simp;omega),qxW (by omega)]
   simp[qfu,bk]
def gb (g:qAE)(a:Int):qAE×Int:=if 300<g.length then ([],2) else if Nd a then (match bk false a g with | none=>([],3) | some r=>(r,0)) else ([],3)
theorem qtx {F:Nat}(hF:20000≤F){g:qAE}{a:Int}(hn:N64 g):qfS F g a=some (gb g a):=by
 unfold qfS gb
 by_cases h:300<g.length
 ·rw[if_pos (by simp;omega),if_pos h]
 ·rw[if_neg (by simp;omega),if_neg h,qjX]
  simp only[qxP]
  by_cases h2:Nd a
  ·have:decide (0≤a∧a≤1048576)=true:=decide_eq_true h2
   rw[this,if_neg (by simp),if_pos h2]
   have:=qs8 (F:=F) hn (by omega) F 0 a false [] (by omega) (by omega) h2 (by simp;omega)
   rw[qx8] at this
   exact this
  ·have:decide (0≤a∧a≤1048576)=false:=decide_eq_false h2
   rw[this,if_pos (by simp),if_neg h2]
theorem qrK {F:Nat}{l:qAE}(hn:N64 l)(hm:l.length≤300):∀ (k i:Nat) (a:Int) (o:qAE),l.length<k+i→i≤l.length→Nd a→o.length+(l.length-i)≤1000 →
  v6 F l k (a,o,(i:Int))=some (match bk (decide (0<i)) a (l.drop i) with | none=>([],3) | some r=>(o++r,0))
 | 0,_,_,_,_,_,_,_=>by omega
 | k+1,i,a,o,h,hi,ha,ho=>by
  show qcV F l (v6 F l k) a o (i:Int)=_
  unfold qcV
  by_cases hlt:i<l.length
  ·have hg:=hn _ (qx9 hlt)
   rw[if_pos (by simp;omega),qs,qxR hlt,qxT hlt,bk]
   simp only[qxP]
   have hbe:((i:Int) == 0)=!(decide (0<i)):=by
    by_cases h0:0<i
    ·rw[decide_eq_true h0];simp;omega
    ·rw[decide_eq_false h0];simp;omega
   rw[hbe,qij ha hg]
   simp only[qxP]
   cases hst:st (decide (0<i)) a l[i] with
   | none=>rfl
   | some n =>
    have hnd:=(qmA hst).1
    simp only
    rw[if_neg (by simp;exact hnd.1),qD (by simp;omega),qw (by omega)]
    simp only[qxP]
    rw[qrK hn hm k (i+1) _ _ (by omega) (by omega) hnd (by simp;omega),decide_eq_true (show 0<i+1 by omega)]
    cases bk true n (l.drop (i+1)) with
    | none=>rfl
    | some r=>simp
  ·rw[if_neg (by simp;omega),qxW (by omega)]
   simp[qeW,bk]
theorem qpn {F:Nat}(hF:20000≤F){g:qAE}{a:Int}(hn:N64 g):qe4 F g a=some (gb g a):=by
 unfold qe4 gb
 by_cases h:300<g.length
 ·rw[if_pos (by simp;omega),if_pos h]
 ·rw[if_neg (by simp;omega),if_neg h,qdq]
  simp only[qxP]
  by_cases h2:Nd a
  ·have:decide (0≤a∧a≤1048576)=true:=decide_eq_true h2
   rw[this,if_neg (by simp),if_pos h2]
   have:=qrK (F:=F) hn (by omega) F 0 a [] (by omega) (by omega) h2 (by simp;omega)
   rw[qx8] at this
   exact this
  ·have:decide (0≤a∧a≤1048576)=false:=decide_eq_false h2
   rw[this,if_pos (by simp),if_neg h2]
def zes (k:Nat)(g:qAE):qAE:=g.flatMap fun x=>ze x.toNat k
theorem qgz (k:Nat)(x:Int)(g:qAE):zes k (x::g)=ze x.toNat k++zes k g:=rfl
theorem qsc (k:Nat)(g:qAE):Bit (zes k g):=by
 induction g with
 | nil=>intro x hx;simp[zes] at hx
 | cons x g ih=>rw[qgz];exact vX (qqW _ _) ih
def L40 (g:qAE):Prop:=∀ x∈g,0≤x∧x≤1099511627776
theorem qwE {F k:Nat}(hF:20000≤F)(h1:1≤k)(h2:k≤16){g:qAE}(hg:L40 g)(hgm:g.length≤10000):∀ (j i:Nat) (l:qAE),g.length<j+i→i≤g.length→Bit l→l.length≤8192 →
  qbc F g (k:Int) j ((i:Int),(l.length:Int),pk l)=some (if (l++zes k (g.drop i)).length≤8192 then (((l++zes k (g.drop i)).length:Int),pk (l++zes k (g.drop i)),true) else (0,[],false))
 | 0,_,_,_,_,_,_=>by omega
 | j+1,i,l,h,hi,hl,hlm=>by
  show qeB F g (k:Int) (qbc F g (k:Int) j) (i:Int) (l.length:Int) (pk l)=_
  unfold qeB
  by_cases hlt:i<g.length
  ·have hx:=hg _ (qx9 hlt)
   obtain ⟨x,hxe⟩:=qx0 hx.1
   rw[if_pos (by simp;omega),qs,qxR hlt,qxT hlt,qgz,hxe,qxU]
   simp only[qxP]
   have hk:Zk (k:Int):=⟨by omega,by omega⟩
   rw[qwu hF ⟨by omega,by omega⟩,qrt hk (by omega)]
   simp only[qxP,ok3]
   have hz:=qqX (n:=x) (k:=k) (by omega) h2
   rw[jN (by omega)]
   by_cases h3:l.length+(ze x k).length≤8192
   ·rw[if_neg (by simp;omega),qq4 hF hl (qqW _ _) hlm (by omega)]
    simp only[qxP]
    rw[qw (by omega),qwE hF h1 h2 hg hgm j (i+1) (l++ze x k) (by omega) (by omega) (vX hl (qqW _ _)) (by rw[qxQ];omega)]
    rw[qxS]
   ·rw[if_pos (by simp;omega),if_neg (by simp only[qxQ];omega)]
  ·rw[if_neg (by simp;omega),qxW (by omega)]
   have:zes k []=[]:=rfl
   rw[this,qyh,if_pos hlm]
   rfl
theorem qvv {F k:Nat}(hF:20000≤F)(h1:1≤k)(h2:k≤16){g l:qAE}(hg:L40 g)(hgm:g.length≤10000)(hl:Bit l)(hlm:l.length≤8192) :
  qdm F (l.length:Int) (pk l) g (k:Int)=some (if (l++zes k g).length≤8192 then (((l++zes k g).length:Int),pk (l++zes k g),true) else (0,[],false)):=by
 unfold qdm
 have:=qwE hF h1 h2 hg hgm F 0 l (by omega) (by omega) hl hlm
 rw[qx8] at this
 exact this
theorem ql6:∀ {b:Bool} {a q:Int} {l:qAE},Nd a→Ris q l→(b=true→Ris a l)→∀ x∈gp b a l,0≤x∧x≤2097153
 | _,_,_,[],_,_,_=>by intro x hx;simp[gp] at hx
 | b,a,q,n::l,ha,hr,hb=>by
  intro x hx
  rw[gp] at hx
  have h1:=ha.1;have h2:=ha.2;have h3:=hr.1.1;have h4:=hr.1.2
  rcases qx1.1 hx with rfl | hx
  ·cases b with
   | true=>have:=(hb rfl).2.1;simp only[if_true];omega
   | false=>simp only[qxZ,if_false];unfold foldOf;split <;> omega
  ·exact ql6 hr.1 hr.2.2 (fun _=>hr.2.2) x hx
def gfr (l:qAE)(k:Nat):Nat→Bool→Int→Nat→Int ⊕ (qAE×Nat)
 | 0,_,_,p=>.inr ([],p)
 | m+1,b,a,p=>if (zq k l p).2.2≠0 then .inl (zq k l p).2.2 else match st b a (zq k l p).1 with
  | none=>.inl 3
  | some n=>match gfr l k m true n (zq k l p).2.1.toNat with
   | .inl e=>.inl e
   | .inr r=>.inr (n::r.1,r.2)
def gfI (o:qAE)(r:Int ⊕ (qAE×Nat)):qAE×Int×Int:=match r with | .inl e=>([],0,e) | .inr r=>(o++r.1,(r.2:Int),0)
theorem qvf {k:Nat}{l:qAE}(hl:Bit l){p:Nat}(h1:1≤k):(zq k l p).2.2≠0∨∃ g q:Nat,zq k l p=((g:Int),(q:Int),0)∧g≤1099511627776∧q≤l.length:=by
 unfold zq
 cases hz:fz (l.drop p) with
 | none=>left;simp
 | some h =>
  simp only
  by_cases h3:41≤h*k
  ·left;rw[if_pos h3];simp
  ·rw[if_neg h3]
   have p3:=qnQ (a:=h*k) h1
   have p0:0<2^(h*k):=qzh (by decide)
   cases hf:flOf l (p+h+1) (2^(h*k+k)-2^(h*k)) with
   | none=>left;simp[en]
   | some r =>
    have:=qto hl (n:=r.1) (q:=r.2) (by omega) hf
    simp only[qyy,en]
    by_cases h4:1099511627776<2^(h*k)+r.1-1
    ·left;rw[if_pos h4];simp
    ·right;rw[if_neg h4];exact ⟨_,_,rfl,by omega,this.2⟩
theorem qrm {F k many:Nat}{l:qAE}(hF:20000≤F)(hl:Bit l)(hlm:l.length≤8192)(h1:1≤k)(h2:k≤16)(hm:many≤300):∀ (j i p:Nat) (a:Int) (b:Bool) (o:qAE),many<j+i→i≤many→p≤l.length→Nd a→o.length+(many-i)≤1000 →
  qah F (l.length:Int) (pk l) (k:Int) (many:Int) j ((p:Int),o,(i:Int),a,b)=some (gfI o (gfr l k (many-i) b a p))
 | 0,_,_,_,_,_,_,_,_,_,_=>by omega
 | j+1,i,p,a,b,o,h,hi,hp,ha,ho=>by
  show qdM F (l.length:Int) (pk l) (k:Int) (many:Int) (qah F (l.length:Int) (pk l) (k:Int) (many:Int) j) (p:Int) o (i:Int) a b=_
  unfold qdM
  by_cases hlt:i<many
  ·rw[if_pos (by simp;omega),qoY hF hl hlm hp h1 h2,show many-i=(many-(i+1))+1 from by omega]
   simp only[qxP]
   unfold gfr
   rcases qvf hl (k:=k) (p:=p) h1 with hz | ⟨g,q,hz,hg,hq⟩
   ·rw[if_pos hz,if_pos (by simpa using hz)]
    rfl
   ·rw[hz]
    simp only[ne_eq,not_true_eq_false,if_false,bne_self_eq_false,qxZ,qxU]
    have hs:=qr4 (F:=F) (b:=b) ha (g:=(g:Int)) ⟨by omega,by omega⟩
    cases hst:st b a (g:Int) with
    | none =>
     rw[hst] at hs
     obtain ⟨x,y,e⟩:=hs
     rw[e];rfl
    | some n =>
     rw[hst] at hs
     simp only at hs
     rw[hs]
     simp only[qxP,qyE,qxZ,if_false]
     rw[qD (by simp;omega),qw (by omega)]
     simp only[qxP]
     rw[qrm hF hl hlm h1 h2 hm j (i+1) q n true _ (by omega) (by omega) hq (qmA hst).1 (by simp;omega)]
     cases gfr l k (many-(i+1)) true n q with
     | inl e=>rfl
     | inr r=>simp[gfI]
  ·rw[if_neg (by simp;omega),show many-i=0 from by omega]
   simp[qfv,gfr,gfI]
theorem qtB {F k many p:Nat}{l:qAE}{a:Int}(hF:20000≤F)(hl:Bit l)(hlm:l.length≤8192)(h1:1≤k)(h2:k≤16)(hm:many≤300)(hp:p≤l.length)(ha:Nd a) :
  qfT F (l.length:Int) (pk l) (p:Int) a (k:Int) (many:Int)=some (gfI [] (gfr l k many false a p)):=by
 unfold qfT
 exact qrm hF hl hlm h1 h2 hm F 0 p a false [] (by omega) (by omega) hp ha (by simp;omega)
theorem qjF {F k:Nat}(hF:20000≤F)(h1:1≤k)(h2:k≤16){g:qAE}(hg:L40 g)(hgm:g.length≤300):∀ (j i:Nat) (o:qAE),g.length<j+i→i≤g.length→o.length+200*(g.length-i)≤100000 →
  yz F g (k:Int) j (o,(i:Int))=some (o++zes k (g.drop i))
 | 0,_,_,_,_,_=>by omega
 | j+1,i,o,h,hi,ho=>by
  show qcw F g (k:Int) (yz F g (k:Int) j) o (i:Int)=_
  unfold qcw
  by_cases hlt:i<g.length
  ·have hx:=hg _ (qx9 hlt)
   obtain ⟨x,hxe⟩:=qx0 hx.1
   rw[if_pos (by simp;omega),qs,qxR hlt,qxT hlt,qgz,hxe,qxU]
   simp only[qxP]
   have hz:=qqX (n:=x) (k:=k) (by omega) h2
   rw[qpT hF (by omega) h1 h2]
   simp only[qxP]
   rw[qD (by omega),qw (by omega)]
   simp only[qxP]
   rw[qjF hF h1 h2 hg hgm j (i+1) _ (by omega) (by omega) (by rw[qxQ];omega),qxS]
  ·rw[if_neg (by simp;omega),qxW (by omega)]
   simp[qeb,zes]
theorem qoj {k:Nat}(h2:k≤16):∀ {g:qAE},L40 g→(zes k g).length≤200*g.length
 | [],_=>by simp[zes]
 | x::g,hg=>by
  have hx:=hg x qyf
  have hz:=qqX (n:=x.toNat) (k:=k) (by omega) h2
  have:=qoj h2 (g:=g) (fun y hy=>hg y (qx7 _ hy))
  rw[qgz,qxQ,qxY];omega
theorem qkk {F k many:Nat}{l:qAE}(hF:20000≤F)(hl:Bit l)(hlm:l.length≤8192)(h1:1≤k)(h2:k≤16)(hm:many≤300):∀ (j p:Nat) (a:Int) (o:qAE),many<j+o.length→o.length≤many→p≤l.length→Nd a →
  v7 F l (k:Int) (many:Int) j ((p:Int),a,o)=some (gfI o (gfr l k (many-o.length) (decide (0<o.length)) a p))
 | 0,_,_,_,_,_,_,_=>by omega
 | j+1,p,a,o,h,ho,hp,ha=>by
  show qcW F l (k:Int) (many:Int) (v7 F l (k:Int) (many:Int) j) (p:Int) a o=_
  unfold qcW
  by_cases hlt:o.length<many
  ·rw[if_pos (by simp;omega),qpU hF hl hlm hp h1 h2,show many-o.length=(many-(o.length+1))+1 from by omega]
   simp only[qxP]
   unfold gfr
   rcases qvf hl (k:=k) (p:=p) h1 with hz | ⟨g,q,hz,hg,hq⟩
   ·rw[if_pos hz,if_pos (by simpa using hz)]
    rfl
   ·rw[hz]
    simp only[ne_eq,not_true_eq_false,if_false,bne_self_eq_false,qxZ,qxU]
    have hbe:(((o.length:Int)) == 0)=!(decide (0<o.length)):=by
     by_cases h0:0<o.length
     ·rw[decide_eq_true h0];simp;intro hh;subst hh;simp at h0
     ·rw[decide_eq_false h0];simp;exact List.length_eq_zero_iff.1 (by omega)
    rw[hbe,qij ha ⟨by omega,by omega⟩]
    simp only[qxP]
    cases hst:st (decide (0<o.length)) a (g:Int) with
    | none=>rfl
    | some n =>
     have hnd:=(qmA hst).1
     simp only
     rw[if_neg (by simp;exact hnd.1),qD (by simp;omega)]
     simp only[qxP]
     have hol:(o++[n]).length=o.length+1:=by simp
     rw[qkk hF hl hlm h1 h2 hm j q n (o++[n]) (by omega) (by omega) hq hnd,hol,decide_eq_true (show 0<o.length+1 by omega)]
     cases gfr l k (many-(o.length+1)) true n q with
     | inl e=>rfl
     | inr r=>simp[gfI]
  ·rw[if_neg (by simp;omega),show many-o.length=0 from by omega]
   simp[qeX,gfr,gfI]
theorem qtc:∀ {b:Bool} {a:Int} {g r:qAE},bk b a g=some r→r.length=g.length
 | _,_,[],r,h=>by simp[bk] at h;subst h;rfl
 | b,a,x::g,r,h=>by
  unfold bk at h
  cases hs:st b a x with
  | none=>rw[hs] at h;simp at h
  | some n =>
   rw[hs] at h
   simp only[qxP] at h
   cases hb:bk true n g with
   | none=>rw[hb] at h;simp at h
   | some r' =>
    rw[hb] at h
    simp only[qyy,qx2] at h
    rw[← h,qxY,qxY,qtc hb]
theorem qrD {a:Int}:((decide (a<0)) || (decide (1048576<a)))=!decide (Nd a):=by
 by_cases h:Nd a
 ·rw[decide_eq_true h];have:=h.1;have:=h.2;simp;omega
 ·rw[decide_eq_false h]
  unfold Nd at h
  simp;omega
theorem qny {l:qAE}{k:Nat}:∀ {m:Nat} {b:Bool} {a:Int} {p:Nat} {r:qAE×Nat},gfr l k m b a p=.inr r→r.1.length=m
 | 0,_,_,_,r,h=>by simp[gfr] at h;subst h;rfl
 | m+1,b,a,p,r,h=>by
  unfold gfr at h
  split at h
  ·simp at h
  ·split at h
   ·simp at h
   ·split at h
    ·simp at h
    ·rename_i r' hr
     simp only[Sum.inr.injEq] at h
     rw[← h]
     simp[qny hr]
theorem qxd {b:Bool}{a n:Int}(ha:Nd a)(hn:Nd n)(hb:b=true→a<n):st b a (if b then n-a-1 else foldOf (n-a))=some n:=by
 have h1:=ha.1;have h2:=ha.2;have h3:=hn.1;have h4:=hn.2
 unfold st
 cases b with
 | true =>
  have:=hb rfl
  simp only[if_true]
  rw[if_neg (by omega),show a+(n-a-1)+1=n from by omega,if_pos hn]
 | false =>
  simp only[qxZ,if_false]
  rw[qht,show a+(n-a)=n from by omega,if_pos hn,if_neg]
  unfold foldOf;split <;> omega
theorem qq3:∀ {b:Bool} {a q:Int} {l:qAE},Nd a→Ris q l→(b=true→Ris a l)→bk b a (gp b a l)=some l
 | _,_,_,[],_,_,_=>rfl
 | b,a,q,n::l,ha,hr,hb=>by
  rw[gp,bk,qxd ha hr.1 (fun h=>(hb h).2.1)]
  simp only[qxP]
  rw[qq3 hr.1 hr.2.2 (fun _=>hr.2.2)]
  rfl
theorem qwW {b:Bool}{a g n:Int}(hg:0≤g)(h:st b a g=some n):(if b then n-a-1 else foldOf (n-a))=g:=by
 obtain ⟨_,_,e⟩:=qmA h
 cases b with
 | true=>simp only[if_true] at e ⊢;omega
 | false =>
  simp only[qxZ,if_false] at e ⊢
  rw[e,show a+q8 g-a=q8 g from by omega,qoX hg]
theorem qwA:∀ {b:Bool} {a:Int} {g r:qAE},(∀ x∈g,0≤x)→bk b a g=some r→gp b a r=g∧(b=true→Ris a r)∧Ris (-1) r
 | _,_,[],r,_,h=>by simp[bk] at h;subst h;exact ⟨rfl,fun _=>trivial,trivial⟩
 | b,a,x::g,r,hg,h=>by
  unfold bk at h
  cases hs:st b a x with
  | none=>rw[hs] at h;simp at h
  | some n =>
   rw[hs] at h
   simp only[qxP] at h
   cases hb:bk true n g with
   | none=>rw[hb] at h;simp at h
   | some r' =>
    rw[hb] at h
    simp only[qyy,qx2] at h
    obtain ⟨e1,e2,e3⟩:=qwA (fun y hy=>hg y (qx7 _ hy)) hb
    obtain ⟨s1,s2,s3⟩:=qmA hs
    have hx:=hg x qyf
    rw[← h]
    refine ⟨by rw[gp,e1,qwW hx hs],fun hb=>?_,?_⟩
    ·subst hb
     simp only[if_true] at s3
     exact ⟨s1,by omega,e2 rfl⟩
    ·have:=s1.1
     exact ⟨s1,by omega,e2 rfl⟩
theorem qim:∀ {q:Int} {l:qAE},Ris q l→∀ x∈l,Nd x
 | _,[],_=>by intro x hx;simp at hx
 | _,n::l,h=>by
  intro x hx
  rcases qx1.1 hx with rfl | hx
  ·exact h.1
  ·exact qim h.2.2 x hx
theorem qxI {n k:Nat}(hk:1≤k)(hk2:k≤16)(hn:n≤1099511627776)(p r:qAE):zq k (p++ze n k++r) p.length=((n:Int),((p.length+(ze n k).length:Nat):Int),0):=by
 unfold zq
 have a1:=qsd n k
 have a2:=qsf (n:=n) hk
 have h40:=(qmS hn hk2).1
 have hd:(p++ze n k++r).drop p.length=un (zh n k)++(le (n+1-zf n k) (zt n k-zf n k)++r):=by
  rw[qxS,qzg];unfold ze;rw[qxS]
 rw[hd,qwx]
 simp only
 rw[if_neg (by omega)]
 have:=qxv (n:=n+1-zf n k) (m:=zt n k-zf n k) (by omega) (p++un (zh n k)) r
 rw[qxQ,qhs] at this
 have e:p++ze n k++r=p++un (zh n k)++le (n+1-zf n k) (zt n k-zf n k)++r:=by unfold ze;simp[qxS]
 have e2:2^(zh n k*k+k)-2^(zh n k*k)=zt n k-zf n k:=rfl
 rw[e,e2,qyM,this]
 have hdm:2^(zh n k*k)+(n+1-zf n k)-1=n:=by
  have:2^(zh n k*k)=zf n k:=rfl
  omega
 simp only[qyy,en,hdm]
 rw[if_neg (by omega)]
 unfold ze
 rw[qxQ,qhs,qyM]
theorem qnz {k:Nat}(hk:1≤k)(hk2:k≤16):∀ {g rs:qAE} {b:Bool} {a:Int} (p r:qAE),L40 g→bk b a g=some rs→gfr (p++zes k g++r) k g.length b a p.length=.inr (rs,p.length+(zes k g).length)
 | [],rs,b,a,p,r,_,h=>by simp[bk] at h;subst h;simp[gfr,zes]
 | x::g,rs,b,a,p,r,hg,h=>by
  have hx:=hg x qyf
  obtain ⟨n,hn⟩:=qx0 hx.1
  unfold bk at h
  cases hs:st b a x with
  | none=>rw[hs] at h;simp at h
  | some y =>
   rw[hs] at h
   simp only[qxP] at h
   cases hb:bk true y g with
   | none=>rw[hb] at h;simp at h
   | some rs' =>
    rw[hb] at h
    simp only[qyy,qx2] at h
    have hz:=qxI hk hk2 (n:=n) (by omega) p (zes k g++r)
    have e:p++zes k (x::g)++r=p++ze n k++(zes k g++r):=by rw[qgz,hn,qxU];simp[qxS]
    have ih:=qnz hk hk2 (p++ze n k) r (fun y hy=>hg y (qx7 _ hy)) hb
    have e2:p++ze n k++zes k g++r=p++ze n k++(zes k g++r):=by simp[qxS]
    rw[e2,qxQ] at ih
    rw[e,qxY,gfr,hz]
    simp only[ne_eq,not_true_eq_false,if_false,qxU]
    rw[← hn,hs]
    simp only
    rw[ih,← h,qgz,hn,qxU,qxQ,qyM]
theorem qkT (l:qAE):(srt l).Perm l:=List.mergeSort_perm l _
theorem qqF (l:qAE):(srt l).Pairwise (·≤·):=by
 have h:=List.pairwise_mergeSort (le:=fun x y:Int=>decide (x≤y)) (fun a b c h1 h2=>by simp only[decide_eq_true_eq] at *;omega) (fun a b=>by simp only[qyZ,decide_eq_true_eq];omega) l
 exact h.imp (fun h=>by simpa using h)
theorem qhn {l m:qAE}(hp:l.Perm m)(hm:m.Pairwise (·≤·)):srt l=m :=
 List.Perm.eq_of_pairwise (le:=fun x y:Int=>x≤y) (fun a b _ _ h1 h2=>by omega) (qqF l) hm ((qkT l).trans hp)
theorem qkD {l:qAE}(h:l.Pairwise (·<·)):l.Pairwise (·≤·):=h.imp (fun h=>by omega)
theorem qkE {l:qAE}(h:l.Pairwise (·<·)):l.Nodup:=h.imp (fun h=>by omega)
theorem qpm {l:qAE}(h:l.Pairwise (·≤·))(hn:l.Nodup):l.Pairwise (·<·):=by
 have:=List.Pairwise.and h hn
 exact this.imp (fun h=>by have h1:=h.1;have h2:=h.2;omega)
theorem qjp (xs:qAE):(Go.Lib.compact xs).length≤xs.length:=by
 unfold Go.Lib.compact Go.Lib.compactUpTo
 rw[qyG]
 exact qy7 (qzP _ _) (by simp)
theorem ql8 {xs:qAE}{j:Nat}(h0:0<j)(hj:j<xs.length):Go.Lib.keeps xs.toArray j=decide (xs[j]≠xs[j-1]):=by
 unfold Go.Lib.keeps
 have e1:xs.toArray[j]! = xs[j]:=by rw[getElem!_pos xs.toArray j (by simpa using hj)];simp
 have e2:xs.toArray[j-1]! = xs[j-1]:=by rw[getElem!_pos xs.toArray (j-1) (by simp;omega)];simp
 rw[e1,e2]
 have:j≠0:=by omega
 simp[this]
theorem qkf {xs:qAE}(h:xs.Pairwise (·<·)):Go.Lib.compact xs=xs:=by
 refine Go.Lib.compact_all _ fun j hj=>?_
 by_cases h0:j=0
 ·subst h0;simp[Go.Lib.keeps]
 ·rw[ql8 (by omega) hj]
  have:=qyY.1 h (j-1) j (by omega) hj (by omega)
  simp;omega
theorem qns {xs:qAE}(h:xs.Pairwise (·≤·))(he:(Go.Lib.compact xs).length=xs.length):xs.Pairwise (·<·):=by
 unfold Go.Lib.compact Go.Lib.compactUpTo at he
 rw[qyG] at he
 have he':((qy0 xs.length).filter (Go.Lib.keeps xs.toArray)).length=(qy0 xs.length).length:=by rw[he];simp
 have hk:=List.length_filter_eq_length_iff.1 he'
 rw[qyY]
 intro i j hi hj hij
 have h1:=hk j (by simpa using hj)
 rw[ql8 (by omega) hj] at h1
 have h2:xs[j]≠xs[j-1]:=by simpa using h1
 have h3:=qyY.1 h (j-1) j (by omega) hj (by omega)
 have h4:xs[i]≤xs[j-1]:=by
  by_cases e:i=j-1
  ·subst e;omega
  ·exact qyY.1 h i (j-1) hi (by omega) (by omega)
 omega
theorem jO:∀ {q:Int} {l:qAE},Ris q l→l.Pairwise (·<·)∧∀ z∈l,q<z
 | _,[],_=>by simp
 | q,x::l,h=>by
  obtain ⟨h1,h2⟩:=jO h.2.2
  have h3:=h.2.1
  refine ⟨qyW.2 ⟨h2,h1⟩,fun z hz=>?_⟩
  rcases qx1.1 hz with rfl | hz
  ·exact h3
  ·have:=h2 z hz;omega
theorem qnS:∀ {q:Int} {l:qAE},l.Pairwise (·<·)→(∀ z∈l,q<z)→(∀ z∈l,Nd z)→Ris q l
 | _,[],_,_,_=>trivial
 | q,x::l,h,hq,hn=>⟨hn x (by simp),hq x (by simp),qnS (qyW.1 h).2 (qyW.1 h).1 fun z hz=>hn z (by simp[hz])⟩
def cmn (l r:qAE):Bool:=l.any fun x=>r.contains x
theorem qq9 {l r:qAE}:cmn l r=false↔∀ x∈l,x∉r:=by simp[cmn]
def mrg (l r:qAE):qAE×Int:=if cmn l r then ([],6) else if 300<l.length+r.length then ([],2) else (srt (l++r),0)
theorem qrs {F n:Nat}(h:n≤1000000):vT F ([]:qAE) 0 (n:Int)=some []:=by
 unfold vT lett
 rw[if_neg (by simp)]
 have e1:isub .i64 ((0:Nat):Int) (([]:qAE).length:Int)=0:=by decide
 rw[e1,qG (by omega) (by omega),Int.sub_zero]
 by_cases h0:n=0
 ·subst h0;rfl
 ·simp only
  rw[if_pos (by simp;omega)]
  have e2:sub ([]:qAE) 0 ((0:Nat):Int)=some []:=by decide
  have e3:appz 8796093022208 ([]:qAE) 0 (n:Int)=some (qx3 n 0):=by
   unfold appz
   rw[if_pos (by simp;omega)]
   simp
  rw[e2]
  simp only[qxP]
  rw[e3]
  simp only[qxP]
  have e4:sub (qx3 n (0:Int)) 0 ((([]:qAE).length:Nat):Int)=some []:=by
   have:=qfJ (l:=qx3 n (0:Int)) (i:=0) (j:=0) (by omega) (by omega)
   simpa using this
  rw[e4]
  rfl
theorem qsl {F:Nat}(hF:20000≤F){a b:qAE}(h:a.length+b.length≤1000000):zN F [a,b]=some (a++b):=by
 obtain ⟨k,rfl⟩:∃ k,F=k+3:=⟨F-3,by omega⟩
 have i0:idx [a,b] (0:Int)=some a:=rfl
 have i1:idx [a,b] (1:Int)=some b:=rfl
 have e0:iadd .i64 0 (a.length:Int)=(a.length:Int):=by rw[qA (by omega) (by omega)];omega
 have e1:iadd .i64 (a.length:Int) (b.length:Int)=((a.length+b.length:Nat):Int):=jN (by omega)
 have o1:iadd .i64 0 1=1:=by decide
 have o2:iadd .i64 1 1=2:=by decide
 have hs:km (k+3) [a,b] ((a.length+b.length:Nat):Int)=some (a++b):=by
  unfold km
  rw[qrs h]
  simp only[qxP]
  show qM (k+3) [a,b] (qS (k+3) [a,b] (k+2)) [] 0=_
  unfold qM
  rw[if_pos (by simp),i0]
  simp only[qxP]
  rw[qD (by simp;omega),o1]
  simp only[qxP,qx6]
  show qM (k+3) [a,b] (qS (k+3) [a,b] (k+1)) a 1=_
  unfold qM
  rw[if_pos (by simp),i1]
  simp only[qxP]
  rw[qD (by omega),o2]
  simp only[qxP]
  show qM (k+3) [a,b] (qS (k+3) [a,b] k) (a++b) 2=_
  unfold qM
  rw[if_neg (by simp)]
  rfl
 unfold zN
 show qN (k+3) [a,b] (qT (k+3) [a,b] (k+2)) 0 0=_
 unfold qN
 rw[if_pos (by simp),i0]
 simp only[qxP]
 rw[e0,if_neg (by simp),o1]
 show qN (k+3) [a,b] (qT (k+3) [a,b] (k+1)) (a.length:Int) 1=_
 unfold qN
 rw[if_pos (by simp),i1]
 simp only[qxP]
 rw[e1,if_neg (by simp;omega),o2]
 show qN (k+3) [a,b] (qT (k+3) [a,b] k) ((a.length+b.length:Nat):Int) 2=_
 unfold qN
 rw[if_neg (by simp)]
 exact hs
theorem qr3 {l r:qAE}(hl:l.Pairwise (·<·))(hr:r.Pairwise (·<·)):(srt (l++r)).Pairwise (·<·)↔cmn l r=false:=by
 rw[qq9]
 constructor
 ·intro h x hx hx'
  have hn:(l++r).Nodup:=(qkT _).nodup_iff.1 (qkE h)
  exact (qyu.1 hn).2.2 x hx x hx' rfl
 ·intro h
  refine qpm (qqF _) ((qkT _).nodup_iff.2 (qyu.2 ⟨qkE hl,qkE hr,fun a ha b hb e=>?_⟩))
  subst e
  exact h a ha hb
theorem qsr {F:Nat}(hF:20000≤F){l r:qAE}(hl:l.Pairwise (·<·))(hr:r.Pairwise (·<·))(hm:l.length+r.length≤1000000) :
  ((zN F ([l,r]:List (qAE))).bind fun x16=>((zF F x16).bind fun x19=>(chk (decide (x19.length=x16.length)) (((vl F x19).bind fun x29=>((kI F x29).bind fun x32=>(if (decide ((x32.length:Int)<(x19.length:Int))) then some (([]:qAE),(6:Int)) else (if (decide (300<(x19.length:Int))) then some (([]:qAE),2) else some (x19,0)))))))))=some (mrg l r):=by
 rw[qsl hF hm]
 simp only[qxP]
 have hsl:(srt (l++r)).length=l.length+r.length:=by rw[qiW,qxQ]
 unfold zF
 rw[if_pos (by rw[qxQ];omega)]
 simp only[qxP]
 unfold chk
 rw[if_pos (by rw[qiW];simp)]
 unfold vl
 rw[qD (by rw[hsl];simp;omega)]
 simp only[qxP,qx6]
 unfold kI
 rw[if_pos (qjp _)]
 simp only[qxP]
 unfold mrg
 have hc:=qjp (srt (l++r))
 cases h:cmn l r
 ·have hp:=(qr3 hl hr).2 h
  rw[qkf hp,if_neg (by simp),hsl,if_neg (show ¬ (false=true) by simp)]
  by_cases h3:300<l.length+r.length
  ·rw[if_pos (by simp;omega),if_pos h3]
  ·rw[if_neg (by simp;omega),if_neg h3]
 ·have hne:(Go.Lib.compact (srt (l++r))).length≠(srt (l++r)).length:=by
   intro he
   have:=(qr3 hl hr).1 (qns (qqF _) he)
   rw[h] at this
   simp at this
  rw[if_pos (by simp only[decide_eq_true_eq];omega),if_pos rfl]
def cr:Int→qAE→Nat
 | _,[]=>0
 | v,y::t=>if y=v then 1+cr (v+1) t else 0
def rs:qAE→List (Int×Int)
 | []=>[]
 | x::t=>match rs t with
  | (y,n)::r=>if y=x+1 then (x,n+1)::r else (x,1)::(y,n)::r
  | []=>[(x,1)]
def rng:Int→Nat→qAE
 | _,0=>[]
 | a,n+1=>a::rng (a+1) n
def flat (R:List (Int×Int)):qAE:=R.flatMap fun r=>rng r.1 r.2.toNat
theorem qvq (v y:Int)(t:qAE):cr v (y::t)=if y=v then 1+cr (v+1) t else 0:=rfl
theorem qvW (x:Int)(t:qAE):rs (x::t)=match rs t with
  | (y,n)::r=>if y=x+1 then (x,n+1)::r else (x,1)::(y,n)::r
  | []=>[(x,1)]:=rfl
theorem qtn:∀ (v:Int) (t:qAE),cr v t≤t.length
 | _,[]=>qyb _
 | v,y::t=>by
  unfold cr
  have:=qtn (v+1) t
  split
  ·rw[qxY];omega
  ·omega
theorem qtm:∀ (v:Int) (t:qAE) {j:Nat},j<cr v t→t[j]?=some (v+j)
 | _,[],_,h=>by simp[cr] at h
 | v,y::t,j,h=>by
  unfold cr at h
  split at h
  ·rename_i he
   cases j with
   | zero=>simp[he]
   | succ j =>
    rw[qzG,qtm (v+1) t (by omega)]
    congr 1;omega
  ·omega
theorem qtl:∀ (v:Int) (t:qAE) {y:Int},t[cr v t]?=some y→y≠v+cr v t
 | _,[],_,h=>by simp[cr] at h
 | v,x::t,y,h=>by
  unfold cr at h ⊢
  split at h
  ·rename_i he
   rw[if_pos he]
   rw[qzU 1,qzG] at h
   have:=qtl (v+1) t h
   omega
  ·rename_i he
   rw[if_neg he]
   simp at h
   omega
theorem qrX:∀ (x:Int) (t:qAE),rs (x::t)=(x,1+(cr (x+1) t:Int))::rs (t.drop (cr (x+1) t))
 | x,[]=>rfl
 | x,y::t=>by
  have ih:=qrX y t
  rw[qvW,ih,qvq]
  simp only
  by_cases h:y=x+1
  ·subst h
   rw[if_pos rfl,if_pos rfl,qzU 1,List.drop_succ_cons]
   congr 2
  ·rw[if_neg h,if_neg h,qx8,ih]
   simp
theorem va:∀ (a:Int) (n:Nat),(rng a n).length=n
 | _,0=>rfl
 | a,n+1=>by rw[rng,qxY,va]
theorem qhk:∀ (a:Int) (n:Nat),rng a (n+1)=rng a n++[a+n]
 | a,0=>by simp[rng]
 | a,n+1=>by
  rw[rng,qhk (a+1) n,rng,qyS,show a+1+(n:Int)=a+((n+1:Nat):Int) from by omega]
theorem qrS:∀ {a:Int} {n j:Nat},j<n→(rng a n)[j]?=some (a+j)
 | _,0,_,h=>by omega
 | a,n+1,0,_=>by simp[rng]
 | a,n+1,j+1,h=>by
  rw[rng,qzG,qrS (Nat.lt_of_succ_lt_succ h),show a+1+(j:Int)=a+((j+1:Nat):Int) from by omega]
theorem qdZ:∀ {a z:Int} {n:Nat},z∈rng a n↔a≤z∧z<a+n
 | a,z,0=>by simp[rng]
 | a,z,n+1=>by
  rw[rng,qx1,qdZ]
  omega
theorem zO (r:Int×Int)(R:List (Int×Int)):flat (r::R)=rng r.1 r.2.toNat++flat R:=rfl
theorem qki (A B:List (Int×Int)):flat (A++B)=flat A++flat B:=by unfold flat;rw[List.flatMap_append]
theorem qkj {R:List (Int×Int)}{z:Int}:z∈flat R↔∃ r∈R,r.1≤z∧z<r.1+r.2.toNat:=by
 unfold flat
 rw[List.mem_flatMap]
 constructor
 ·rintro ⟨r,h1,h2⟩;exact ⟨r,h1,qdZ.1 h2⟩
 ·rintro ⟨r,h1,h2⟩;exact ⟨r,h1,qdZ.2 h2⟩
def Sep:Int→List (Int×Int)→Prop
 | _,[]=>True
 | e,r::R=>e<r.1∧1≤r.2∧Sep (r.1+r.2) R
theorem quz {e e':Int}{R:List (Int×Int)}(h:Sep e R)(he:e'≤e):Sep e' R:=by
 cases R with
 | nil=>trivial
 | cons r R=>exact ⟨by have:=h.1;omega,h.2⟩
theorem qeL:∀ (l:qAE),flat (rs l)=l
 | []=>rfl
 | x::t=>by
  have ih:=qeL t
  unfold rs
  cases h:rs t with
  | nil =>
   rw[h] at ih
   simp only[zO]
   rw[ih]
   simp[rng]
  | cons p r =>
   obtain ⟨y,n⟩:=p
   rw[h] at ih
   simp only
   by_cases he:y=x+1
   ·rw[if_pos he]
    subst he
    rw[zO] at ih ⊢
    simp only at ih ⊢
    by_cases hn:0≤n
    ·rw[show (n+1).toNat=n.toNat+1 from by omega,rng,qyS,ih]
    ·exfalso
     have:∀ (l:qAE),∀ r∈rs l,1≤r.2:=by
      intro l
      induction l with
      | nil=>intro r hr;simp[rs] at hr
      | cons x t ih =>
       intro r hr
       unfold rs at hr
       cases h:rs t with
       | nil=>rw[h] at hr;simp at hr;rw[hr];simp
       | cons p q =>
        obtain ⟨y,n⟩:=p
        rw[h] at hr ih
        have hn:=ih (y,n) (by simp)
        simp only at hr hn
        split at hr
        ·rcases qx1.1 hr with rfl | hr
         ·simp only;omega
         ·exact ih r (by simp[hr])
        ·rcases qx1.1 hr with rfl | hr
         ·simp
         ·exact ih r hr
     have:=this t (x+1,n) (by rw[h];simp)
     simp only at this
     omega
   ·rw[if_neg he,zO,ih]
    simp[rng]
theorem qio:∀ {q:Int} {l:qAE},l.Pairwise (·<·)→(∀ z∈l,q<z)→Sep q (rs l)
 | _,[],_,_=>trivial
 | q,x::t,h,hq=>by
  have h':=qyW.1 h
  have ih:Sep x (rs t):=qio h'.2 h'.1
  have hx:=hq x (by simp)
  unfold rs
  cases hr:rs t with
  | nil=>exact ⟨hx,by simp,trivial⟩
  | cons p r =>
   obtain ⟨y,n⟩:=p
   rw[hr] at ih
   obtain ⟨i1,i2,i3⟩:=ih
   simp only at i1 i2 i3 ⊢
   by_cases he:y=x+1
   ·rw[if_pos he]
    subst he
    refine ⟨hx,by simp only;omega,?_⟩
    simp only
    rw[show x+(n+1)=x+1+n from by omega]
    exact i3
   ·rw[if_neg he]
    exact ⟨hx,by simp,by simp only;omega,i2,i3⟩
theorem qqA:∀ {e:Int} {R:List (Int×Int)},Sep e R→∀ z∈flat R,e<z
 | _,[],_=>by simp[flat]
 | e,r::R,h=>by
  intro z hz
  rw[zO] at hz
  rcases qxV.1 hz with hz | hz
  ·have:=qdZ.1 hz;have:=h.1;omega
  ·have:=qqA h.2.2 z hz;have:=h.1;have:=h.2.1;omega
theorem qul:∀ (a:Int) (n:Nat),(rng a n).Pairwise (·<·)
 | _,0=>List.Pairwise.nil
 | a,n+1=>qyW.2 ⟨fun z hz=>by have:=qdZ.1 hz;omega,qul (a+1) n⟩
theorem qqC:∀ {e:Int} {R:List (Int×Int)},Sep e R→(flat R).Pairwise (·<·)
 | _,[],_=>by simp[flat]
 | e,r::R,h=>by
  rw[zO,List.pairwise_append]
  refine ⟨qul _ _,qqC h.2.2,fun x hx y hy=>?_⟩
  have h1:=qdZ.1 hx
  have h2:=qqA h.2.2 y hy
  have:=h.2.1
  omega
theorem qds:∀ {e:Int} {R:List (Int×Int)} (p:Int×Int→Bool),Sep e R→Sep e (R.filter p)
 | _,[],_,_=>trivial
 | e,r::R,p,h=>by
  have ih:=qds p h.2.2
  rw[qy1]
  split
  ·exact ⟨h.1,h.2.1,ih⟩
  ·exact quz ih (by have:=h.1;have:=h.2.1;omega)
theorem qjy (F:Nat){xs:qAE}(hm:xs.length≤1000000):∀ (k i:Nat),xs.length<k+i→i≤xs.length→yk F xs xs k (i:Int)=some true
 | 0,_,_,_=>by omega
 | k+1,i,h,hi=>by
  show jb F xs xs (yk F xs xs k) (i:Int)=_
  unfold jb
  by_cases hlt:i<xs.length
  ·rw[if_pos (by simp;omega),qs,qxR hlt]
   simp only[qxP]
   rw[if_neg (by simp),qw (by omega)]
   exact qjy F hm k (i+1) (by omega) (by omega)
  ·rw[if_neg (by simp;omega)];rfl
theorem qkP {F:Nat}{xs:qAE}(hF:xs.length<F)(hm:xs.length≤1000000):jq F xs xs=some true:=by
 unfold jq
 rw[if_neg (by simp)]
 exact qjy F hm F 0 (by omega) (by omega)
theorem qo3 (F:Nat){l:qAE}{v:Int}(hm:l.length≤1000000):∀ (k i:Nat),l.length<k+i→i≤l.length→qa9 F l v k (i:Int)=some (decide (v∈l.drop i))
 | 0,_,_,_=>by omega
 | k+1,i,h,hi=>by
  show qes F l v (qa9 F l v k) (i:Int)=_
  unfold qes
  by_cases hlt:i<l.length
  ·rw[if_pos (by simp;omega),qs,qxR hlt,qxT hlt]
   simp only[qxP]
   by_cases he:l[i]=v
   ·rw[if_pos (by simpa using he)]
    simp[he]
   ·rw[if_neg (by simpa using he),qw (by omega),qo3 F hm k (i+1) (by omega) (by omega)]
    have:(v∈l[i]::l.drop (i+1))↔v∈l.drop (i+1):=⟨fun hv=>(qx1.1 hv).resolve_left (fun e=>he e.symm),fun hv=>qx7 _ hv⟩
    rw[decide_eq_decide.2 this]
  ·rw[if_neg (by simp;omega),qxW (by omega)]
   simp[qgc]
theorem qeg {F:Nat}{l:qAE}{v:Int}(hF:l.length<F)(hm:l.length≤1000000):qbR F l v=some (decide (v∈l)):=by
 unfold qbR
 have:=qo3 F (v:=v) hm F 0 (by omega) (by omega)
 simpa using this
def qhL {σ τ:Type}(yy:σ→(Int×Int)→Option (σ ⊕ τ)):List (Int×Int)→σ→Option (σ ⊕ τ)
 | [],s=>some (.inl s)
 | r::R,s=>(yy s r).bind (Sum.elim (fun s'=>qhL yy R s') (fun t=>some (.inr t)))
def Mid (l:qAE):Prop:=∀ x∈l,-4611686018427387904≤x∧x≤4611686018427387904
theorem quu {σ τ:Type}{F:Nat}{yy:σ→(Int×Int)→Option (σ ⊕ τ)}{rec31:(Int×σ)→Option (σ ⊕ τ)}{l:qAE}{i:Nat}{x:Int}{s:σ}(hl:l.length≤1000000)(hm:Mid l)(hx:l[i]?=some x) :
  ∀ (k j:Nat),cr (x+1) (l.drop (i+1))<k+j→j≤cr (x+1) (l.drop (i+1)) →
   ya F yy rec31 l (i:Int) s k ((1+j:Nat):Int)=qbG F yy rec31 l (i:Int) s ((1+cr (x+1) (l.drop (i+1)):Nat):Int)
 | 0,_,_,_=>by omega
 | k+1,j,h,hj=>by
  have hi:=(qx5.1 hx).1
  have hcl:=qtn (x+1) (l.drop (i+1))
  rw[qya] at hcl
  have hxm:=hm x (qxX hx)
  show qbF F yy rec31 l (i:Int) s (ya F yy rec31 l (i:Int) s k) ((1+j:Nat):Int)=_
  unfold qbF
  rw[jN (by omega)]
  by_cases hlt:i+(1+j)<l.length
  ·have hg:l[i+(1+j)]?=some l[i+(1+j)]:=qxR hlt
   have hd:(l.drop (i+1))[j]?=some l[i+(1+j)]:=by rw[qyF,show i+1+j=i+(1+j) from by omega];exact hg
   rw[if_pos (by simp;omega),qs,qs,hx,hg]
   simp only[qxP]
   rw[qA (by omega) (by omega)]
   unfold qbH
   by_cases hjc:j<cr (x+1) (l.drop (i+1))
   ·have:=qtm (x+1) (l.drop (i+1)) hjc
    rw[hd,qx2] at this
    rw[if_pos (by rw[this];simp;omega),qw (by omega),show 1+j+1=1+(j+1) from by omega]
    exact quu hl hm hx k (j+1) (by omega) (by omega)
   ·obtain rfl:j=cr (x+1) (l.drop (i+1)):=by omega
    have:=qtl (x+1) (l.drop (i+1)) hd
    rw[if_neg (by simp;omega)]
  ·obtain rfl:j=cr (x+1) (l.drop (i+1)):=by omega
   rw[if_neg (by simp;omega)]
   rfl
theorem quv {σ τ:Type}{F:Nat}{yy:σ→(Int×Int)→Option (σ ⊕ τ)}{l:qAE}(hl:l.length≤1000000)(hF:l.length+1<F)(hm:Mid l) :
  ∀ (k i:Nat) (s:σ),l.length<k+i→i≤l.length→q7 F yy l k ((i:Int),s)=qhL yy (rs (l.drop i)) s
 | 0,_,_,_,_=>by omega
 | k+1,i,s,h,hi=>by
  show qbE F yy l (q7 F yy l k) (i:Int) s=_
  unfold qbE
  by_cases hlt:i<l.length
  ·have hcl:=qtn (l[i]+1) (l.drop (i+1))
   rw[qya] at hcl
   have h1:=quu (F:=F) (yy:=yy) (rec31:=q7 F yy l k) (s:=s) hl hm (qxR hlt) F 0 (by omega) (by omega)
   rw[show ((1+0:Nat):Int)=1 from rfl] at h1
   rw[if_pos (by simp;omega),h1,qxT hlt,qrX]
   unfold qbG qhL
   rw[qs,qxR hlt]
   simp only[qxP]
   rw[jN (by omega),show ((1+cr (l[i]+1) (l.drop (i+1)):Nat):Int)=1+(cr (l[i]+1) (l.drop (i+1)):Int) from by omega]
   congr 2
   funext s'
   rw[quv hl hF hm k _ s' (by omega) (by omega),qzB]
   congr 3
   omega
  ·rw[if_neg (by simp;omega),qxW (by omega)]
   rfl
theorem qvX {σ τ:Type}{F:Nat}{yy:σ→(Int×Int)→Option (σ ⊕ τ)}{l:qAE}{s:σ}(hl:l.length≤1000000)(hF:l.length+1<F)(hm:Mid l):qcO F yy l s=qhL yy (rs l) s:=by
 unfold qcO
 exact quv hl hF hm F 0 s (by omega) (by omega)
def spO (least:Int)(R:List (Int×Int)):List (Int×Int):=R.filter fun r=>decide (least≤r.2)
def spS (least:Int)(R:List (Int×Int)):List (Int×Int):=R.filter fun r=>decide (r.2<least)
theorem quE {least:Int}{r:Int×Int}{R:List (Int×Int)}(h:least≤r.2):spO least (r::R)=r::spO least R:=by unfold spO;rw[qy1,if_pos (by simpa using h)]
theorem quD {least:Int}{r:Int×Int}{R:List (Int×Int)}(h:¬ least≤r.2):spO least (r::R)=spO least R:=by unfold spO;rw[qy1,if_neg (by simpa using h)]
theorem quG {least:Int}{r:Int×Int}{R:List (Int×Int)}(h:¬ least≤r.2):spS least (r::R)=r::spS least R:=by unfold spS;rw[qy1,if_pos (by simpa using h)]
theorem quF {least:Int}{r:Int×Int}{R:List (Int×Int)}(h:least≤r.2):spS least (r::R)=spS least R:=by unfold spS;rw[qy1,if_neg (by simpa using h)]
theorem qmv {F:Nat}{o:List (Int×Int)}{a n:Int}(ha:-4611686018427387904≤a∧a≤4611686018427387904)(hn:0≤n∧n≤1000000){rest:qAE}(hr:rest.length≤1000000):∀ (k j:Nat),n.toNat<k+j→j≤n.toNat →
  qbf F o a n k ((j:Int),rest++rng a j)=some (.inl (rest++rng a n.toNat,o))
 | 0,_,_,_=>by omega
 | k+1,j,h,hj=>by
  show qeI F o a n (qbf F o a n k) (j:Int) (rest++rng a j)=_
  unfold qeI
  by_cases hlt:j<n.toNat
  ·rw[if_pos (by simp;omega),qD (by simp[va];omega),qA (by omega) (by omega),qw (by omega)]
   simp only[qxP]
   rw[qxS,← qhk]
   exact qmv ha hn hr k (j+1) (by omega) (by omega)
  ·rw[if_neg (by simp;omega)]
   obtain rfl:j=n.toNat:=by omega
   rfl
def Small (R:List (Int×Int)):Prop:=∀ r∈R,(-4611686018427387904≤r.1∧r.1≤4611686018427387904)∧0≤r.2∧r.2≤1000000
def rawY (F:Nat)(least:Int)(s:qAE×List (Int×Int))(r:Int×Int):Option ((qAE×List (Int×Int)) ⊕ Empty):=qcN F least s.1 s.2 r.1 r.2
theorem qjh {F:Nat}{least:Int}(hF:1000001<F):∀ (R:List (Int×Int)) (rest:qAE) (o:List (Int×Int)),Small R→rest.length+(flat R).length≤1000000→o.length+R.length≤1000000 →
  qhL (rawY F least) R (rest,o)=some (.inl (rest++flat (spS least R),o++spO least R))
 | [],rest,o,_,_,_=>by simp[qhL,spS,spO,flat]
 | (a,n)::R,rest,o,hs,h1,h2=>by
  have hr:=hs (a,n) (by simp)
  have hs':Small R:=fun r hr=>hs r (by simp[hr])
  rw[zO,qxQ,va] at h1
  rw[qxY] at h2
  simp only at hr h1
  show ((qcN F least rest o a n).bind _)=_
  unfold qcN
  by_cases h:least≤n
  ·rw[if_pos (by simpa using h),qD (by simp;omega)]
   simp only[qxP,Sum.elim_inl]
   rw[qjh hF R _ _ hs' (by omega) (by simp;omega)]
   rw[quE (by exact h),quF (by exact h),qxS]
   rfl
  ·rw[if_neg (by simpa using h)]
   have hl:=qmv (F:=F) (o:=o) hr.1 hr.2 (rest:=rest) (by omega) F 0 (by omega) (by omega)
   rw[rng,qyh] at hl
   rw[show ((0:Nat):Int)=0 from rfl] at hl
   rw[hl]
   simp only[qxP,Sum.elim_inl]
   rw[qjh hF R _ _ hs' (by rw[qxQ,va];omega) (by omega)]
   rw[quD (by exact h),quG (by exact h),zO,qxS]
theorem qur:∀ {q:Int} {R:List (Int×Int)},Sep q R→∀ r∈R,1≤r.2
 | _,[],_=>by simp
 | q,r::R,h=>by
  intro r' hr
  rcases qx1.1 hr with rfl | hr
  ·exact h.2.1
  ·exact qur h.2.2 r' hr
theorem qhy {R:List (Int×Int)}{r:Int×Int}(hr:r∈R):r.2.toNat≤(flat R).length:=by
 obtain ⟨A,B,rfl⟩:=List.append_of_mem hr
 rw[qki,zO,qxQ,qxQ,va]
 omega
theorem qgt {q:Int}{R:List (Int×Int)}(h:Sep q R):R.length≤(flat R).length:=by
 induction R generalizing q with
 | nil=>simp
 | cons r R ih =>
  have:=ih h.2.2
  have:=h.2.1
  rw[zO,qxQ,va,qxY]
  omega
theorem qrN {q:Int}{l:qAE}(h:Ris q l):Mid l:=fun x hx=>by have:=qim h x hx;unfold Nd at this;omega
theorem qus {q:Int}{l:qAE}(hl:l.length≤1000000)(h:Ris q l):Small (rs l):=by
 intro r hr
 have hs:=qio (jO h).1 (jO h).2
 have h1:=qur hs r hr
 have h2:=qhy hr
 have hf:r.1∈flat (rs l):=qkj.2 ⟨r,hr,by omega,by omega⟩
 rw[qeL] at h2 hf
 have h3:=qrN h _ hf
 exact ⟨h3,by omega,by omega⟩
theorem qqz {F:Nat}(hF:2000000≤F){q:Int}{l:qAE}{least:Int}(hl:l.length≤300)(h:Ris q l):qgJ F l least=some (spO least (rs l),flat (spS least (rs l))):=by
 unfold qgJ qg8
 simp only[qxP]
 have hs:=qio (jO h).1 (jO h).2
 have hlong:=qgt hs
 rw[qeL] at hlong
 have hf:=qjh (F:=F) (least:=least) (by omega) (rs l) [] [] (qus (by omega) h) (by rw[qeL];simp;omega) (by simp;omega)
 have he:=qvX (yy:=rawY F least) (s:=(([]:qAE),([]:List (Int×Int)))) (by omega) (by omega:l.length+1<F) (qrN h)
 rw[hf] at he
 show ((qcO F (rawY F least) l ([],[])).bind _)=_
 rw[he]
 simp
theorem qt7:∀ {A B:qAE},A.Pairwise (·<·)→B.Pairwise (·<·)→(∀ z,z∈A↔z∈B)→A=B
 | [],[],_,_,_=>rfl
 | [],s::B,_,_,h=>by have:=(h s).2 (by simp);simp at this
 | r::A,[],_,_,h=>by have:=(h r).1 (by simp);simp at this
 | r::A,s::B,hA,hB,h=>by
  obtain ⟨fA,pA⟩:=qyW.1 hA
  obtain ⟨fB,pB⟩:=qyW.1 hB
  have hrs:r=s:=by
   rcases qx1.1 ((h r).1 (by simp)) with h1 | h1
   ·exact h1
   ·rcases qx1.1 ((h s).2 (by simp)) with h2 | h2
    ·exact h2.symm
    ·have:=fA s h2;have:=fB r h1;omega
  subst hrs
  congr 1
  refine qt7 pA pB fun x=>⟨fun hx=>?_,fun hx=>?_⟩
  ·rcases qx1.1 ((h x).1 (by simp[hx])) with h1 | h1
   ·subst h1;have:=fA x hx;omega
   ·exact h1
  ·rcases qx1.1 ((h x).2 (by simp[hx])) with h1 | h1
   ·subst h1;have:=fB x hx;omega
   ·exact h1
theorem qvC {F:Nat}{x y:Int}:qdK F x y=some (decide (x<y)):=by
 unfold qdK qc7
 simp[qbu]
theorem qvw {i j:Nat}(h:i+j<1000000000):iconv .i64 (ishr .u64 (iconv .u64 (iadd .i64 (i:Int) (j:Int))) 1)=(((i+j)/2:Nat):Int):=by
 rw[jN (by omega)]
 have e1:iconv .u64 ((i+j:Nat):Int)=((i+j:Nat):Int):=zg (by omega) (by omega)
 have e2:=qhz (k:=.u64) (a:=((i+j:Nat):Int)) (m:=1) (by decide)
 rw[show ((1:Nat):Int)=1 from rfl,show (2:Int)^1=2 from rfl] at e2
 rw[e1,e2]
 have e3:((i+j:Nat):Int)/2=(((i+j)/2:Nat):Int):=by omega
 rw[e3]
 exact qL (by omega) (by omega)
theorem qkQ {F:Nat}{l:qAE}{v:Int}(hl:l.Pairwise (·<·))(hm:l.length≤100000):∀ (k i j:Nat),j<k+i→i≤j→j≤l.length→(∀ z∈l.take i,z<v)→(∀ z∈l.drop j,v≤z) →
  ∃ p,qZ F l v k ((i:Int),(j:Int))=some (p,decide (v∈l))
 | 0,_,_,_,_,_,_,_=>by omega
 | k+1,i,j,h,hij,hj,h1,h2=>by
  show ∃ p,zT F l v (qZ F l v k) (i:Int) (j:Int)=_
  unfold zT
  by_cases hlt:i<j
  ·have hh:(i+j)/2<l.length:=by omega
   rw[if_pos (by simp;omega)]
   unfold lett
   rw[qvw (by omega)]
   simp only
   rw[qs,qxR hh]
   simp only[qxP]
   rw[qvC]
   simp only[qxP]
   by_cases hc:l[(i+j)/2]<v
   ·rw[decide_eq_true hc,if_pos rfl,qw (by omega)]
    refine qkQ hl hm k ((i+j)/2+1) j (by omega) (by omega) hj (fun z hz=>?_) h2
    obtain ⟨q,hq⟩:=qzv hz
    have hq1:=(qx5.1 hq).1
    rw[qye] at hq1
    rw[List.getElem?_take_of_lt (by omega),qxR (by omega)] at hq
    simp only[qx2] at hq
    subst hq
    by_cases e:q=(i+j)/2
    ·subst e;exact hc
    ·have:=qyY.1 hl q ((i+j)/2) (by omega) hh (by omega)
     omega
   ·rw[decide_eq_false hc,if_neg (by simp)]
    refine qkQ hl hm k i ((i+j)/2) (by omega) (by omega) (by omega) h1 (fun z hz=>?_)
    obtain ⟨q,hq⟩:=qzv hz
    rw[qyF] at hq
    have hq1:=(qx5.1 hq).1
    rw[qxR hq1] at hq
    simp only[qx2] at hq
    subst hq
    by_cases e:q=0
    ·subst e;simp only[qyP];omega
    ·have:=qyY.1 hl ((i+j)/2) ((i+j)/2+q) hh (by omega) (by omega)
     omega
  ·obtain rfl:i=j:=by omega
   rw[if_neg (by simp)]
   unfold yc
   by_cases hi:i<l.length
   ·have hd:l.drop i=l[i]::l.drop (i+1):=qxT hi
    have hmem:v∈l↔l[i]=v:=by
     constructor
     ·intro hv
      rw[← qyA i l] at hv
      rcases qxV.1 hv with hv | hv
      ·have:=h1 v hv;omega
      ·rw[hd] at hv
       rcases qx1.1 hv with hv | hv
       ·exact hv.symm
       ·have hp:=hl.sublist (List.drop_sublist i l)
        rw[hd] at hp
        have:=(qyW.1 hp).1 v hv
        have:=h2 l[i] (by rw[hd];exact qyf ..)
        omega
     ·intro hv;rw[← hv];exact qx9 hi
    rw[if_pos (by simp;omega),qs,qxR hi]
    simp only[qxP]
    by_cases he:l[i]=v
    ·rw[if_pos (by simpa using he),decide_eq_true (hmem.2 he)]
     exact ⟨_,rfl⟩
    ·rw[if_neg (by simpa using he),decide_eq_false (fun h=>he (hmem.1 h))]
     unfold qaN
     simp only[qxP,bne_self_eq_false,qxZ,if_false]
     exact ⟨_,rfl⟩
   ·rw[if_neg (by simp;omega)]
    have hn:v∉l:=by
     intro hv
     rw[List.take_of_length_le (by omega)] at h1
     have:=h1 v hv
     omega
    rw[decide_eq_false hn]
    exact ⟨_,rfl⟩
theorem qmw {F:Nat}(hF:200000≤F){l:qAE}{v:Int}(hl:l.Pairwise (·<·))(hm:l.length≤100000):∃ p,zP F l v=some (p,decide (v∈l)):=by
 unfold zP
 exact qkQ hl hm F 0 l.length (by omega) (by omega) (qyb _) (by simp) (by simp)
def tb:Bool→Int→List Bool→qAE
 | _,_,[]=>[]
 | c,m,b::bs=>if b != c then m::tb b 1 bs else tb c (m+1) bs
theorem qhP (c:Bool)(m:Int)(bs:List Bool):tb c m (c::bs)=tb c (m+1) bs:=by
 show (if c != c then _ else _)=_
 rw[if_neg (by simp)]
theorem qhQ {c b:Bool}(h:b≠c)(m:Int)(bs:List Bool):tb c m (b::bs)=m::tb b 1 bs:=by
 show (if b != c then _ else _)=_
 rw[if_pos (by simpa using h)]
theorem qqP:∀ (c:Bool) (m:Int) (bs:List Bool),(tb c m bs).length≤bs.length
 | _,_,[]=>qyb _
 | c,m,b::bs=>by
  by_cases h:b=c
  ·subst h
   rw[qhP]
   have:=qqP b (m+1) bs
   rw[qxY];omega
  ·rw[qhQ h,qxY,qxY]
   have:=qqP b 1 bs
   omega
def hasB (l:qAE)(x:Int):Bool:=decide (x∈l)
def tbs (fr0 l:qAE):qAE:=tb true 0 (fr0.map (hasB l))
def rst (fr0 l:qAE):qAE:=l.filter fun x=>!hasB fr0 x
theorem qxa {F:Nat}{o:qAE}{c b:Bool}{m:Int}(ho:o.length≤1000000)(hm:0≤m∧m≤1000000):qaM F o c m b=some (if b != c then (o++[m],b,1) else (o,c,m+1)):=by
 unfold qaM
 by_cases h:b=c
 ·subst h
  rw[if_neg (by simp),if_neg (by simp)]
  unfold vS
  rw[qA (by omega) (by omega)]
 ·rw[if_pos (by simpa using h),if_pos (by simpa using h),qD (by simp;omega)]
  rfl
theorem qjf {F:Nat}(hF:200000≤F){fr0 l o:qAE}(hf:fr0.Pairwise (·<·))(hfm:fr0.length≤300)(hm:l.length≤300):∀ (k i:Nat) (r:qAE),l.length<k+i→i≤l.length→r.length≤i →
  vg F fr0 l o k (r,(i:Int))=some (o,r++rst fr0 (l.drop i))
 | 0,_,_,_,_,_=>by omega
 | k+1,i,r,h,hi,hr=>by
  show qde F fr0 l o (vg F fr0 l o k) r (i:Int)=_
  unfold qde
  by_cases hlt:i<l.length
  ·obtain ⟨p,hp⟩:=qmw hF (v:=l[i]) hf (by omega)
   rw[if_pos (by simp;omega),qs,qxR hlt,qxT hlt]
   simp only[qxP]
   rw[hp]
   simp only[qxP]
   unfold qdg rst
   rw[qy1,qw (by omega)]
   by_cases hc:l[i]∈fr0
   ·rw[if_neg (by simp[hc]),if_neg (by simp[hasB,hc])]
    exact qjf hF hf hfm hm k (i+1) r (by omega) (by omega) (by omega)
   ·rw[if_pos (by simp[hc]),if_pos (by simp[hasB,hc]),qD (by simp;omega)]
    simp only[qxP]
    rw[qjf hF hf hfm hm k (i+1) _ (by omega) (by omega) (by simp;omega),qxS]
    rfl
  ·rw[if_neg (by simp;omega),qxW (by omega)]
   simp[qfz,rst]
theorem qqt {F:Nat}(hF:200000≤F){fr0 l:qAE}(hf:fr0.Pairwise (·<·))(hl:l.Pairwise (·<·))(hfm:fr0.length≤300)(hm:l.length≤300):∀ (k i:Nat) (o:qAE) (c:Bool) (m:Int),fr0.length<k+i→i≤fr0.length→o.length≤i→0≤m∧m≤i →
  jg F fr0 l k ((i:Int),o,c,m)=some (o++tb c m ((fr0.drop i).map (hasB l)),rst fr0 l)
 | 0,_,_,_,_,_,_,_,_=>by omega
 | k+1,i,o,c,m,h,hi,ho,hmm=>by
  show qdf F fr0 l (jg F fr0 l k) (i:Int) o c m=_
  unfold qdf
  by_cases hlt:i<fr0.length
  ·obtain ⟨p,hp⟩:=qmw hF (v:=fr0[i]) hl (by omega)
   rw[if_pos (by simp;omega),qs,qxR hlt,qxT hlt,qyw]
   simp only[qxP]
   rw[hp]
   simp only[qxP]
   rw[qxa (by omega) (by omega)]
   simp only[qxP]
   rw[qw (by omega)]
   have hb:hasB l fr0[i]=decide (fr0[i]∈l):=rfl
   rw[← hb]
   by_cases hc:hasB l fr0[i]=c
   ·rw[if_neg (by simp[hc])]
    simp only
    rw[qqt hF hf hl hfm hm k (i+1) o c (m+1) (by omega) (by omega) (by omega) (by omega),hc,qhP]
   ·rw[if_pos (by simpa using hc)]
    simp only
    rw[qqt hF hf hl hfm hm k (i+1) _ _ 1 (by omega) (by omega) (by simp;omega) (by omega),qhQ hc,qxS]
    rfl
  ·rw[if_neg (by simp;omega),qxW (by omega)]
   unfold qfy
   have:=qjf hF (o:=o) hf hfm hm F 0 [] (by omega) (by omega) (by simp)
   rw[qx8,qx6] at this
   rw[show ((0:Nat):Int)=0 from rfl] at this
   rw[this]
   simp[tb]
theorem qkJ {F:Nat}(hF:200000≤F){fr0 l o:qAE}(hfm:fr0.length≤300)(hm:l.length≤300):∀ (k i:Nat) (r:qAE),l.length<k+i→i≤l.length→r.length≤i →
  ky F fr0 l o k (r,(i:Int))=some (o,r++rst fr0 (l.drop i))
 | 0,_,_,_,_,_=>by omega
 | k+1,i,r,h,hi,hr=>by
  show jR F fr0 l o (ky F fr0 l o k) r (i:Int)=_
  unfold jR
  by_cases hlt:i<l.length
  ·rw[if_pos (by simp;omega),qs,qxR hlt,qxT hlt]
   simp only[qxP]
   rw[qeg (by omega) (by omega)]
   simp only[qxP]
   unfold jT rst
   rw[qy1,qw (by omega)]
   by_cases hc:l[i]∈fr0
   ·rw[if_neg (by simp[hc]),if_neg (by simp[hasB,hc])]
    exact qkJ hF hfm hm k (i+1) r (by omega) (by omega) (by omega)
   ·rw[if_pos (by simp[hc]),if_pos (by simp[hasB,hc]),qD (by simp;omega)]
    simp only[qxP]
    rw[qkJ hF hfm hm k (i+1) _ (by omega) (by omega) (by simp;omega),qxS]
    rfl
  ·rw[if_neg (by simp;omega),qxW (by omega)]
   simp[qcE,rst]
theorem qwM {F:Nat}(hF:200000≤F){fr0 l:qAE}(hfm:fr0.length≤300)(hm:l.length≤300):∀ (k i:Nat) (o:qAE) (b:Nat),fr0.length<k+i→i≤fr0.length→o.length≤i→b≤i →
  zI F fr0 l k (o,(b:Int),(i:Int))=some (o++tb (if 0<i then hasB l (fr0.getD (i-1) 0) else true) ((i:Int)-b) ((fr0.drop i).map (hasB l)),rst fr0 l)
 | 0,_,_,_,_,_,_,_=>by omega
 | k+1,i,o,b,h,hi,ho,hb=>by
  show jS F fr0 l (zI F fr0 l k) o (b:Int) (i:Int)=_
  unfold jS
  by_cases hlt:i<fr0.length
  ·have hrec:=fun o b h1 h2=>qwM hF hfm hm (l:=l) k (i+1) o b (by omega) (by omega) h1 h2
   rw[if_pos (show 0<i+1 by omega)] at hrec
   have hg:fr0.getD (i+1-1) 0=fr0[i]:=by simp[qyO,qxR hlt]
   rw[hg] at hrec
   have hj:∀ w:Bool,vh F (zI F fr0 l k) fr0 l o (b:Int) (i:Int) w=some (o++tb w ((i:Int)-b) ((fr0.drop i).map (hasB l)),rst fr0 l):=by
    intro w
    unfold vh
    rw[qs,qxR hlt]
    simp only[qxP]
    rw[qeg (by omega) (by omega)]
    simp only[qxP]
    have hb':decide (fr0[i]∈l)=hasB l fr0[i]:=rfl
    rw[hb',qxT hlt,qyw]
    unfold jU
    by_cases hc:hasB l fr0[i]=w
    ·rw[if_neg (by simp[hc]),qw (by omega),hrec o b (by omega) (by omega),hc,qhP]
     congr 4;omega
    ·rw[if_pos (by simpa using hc),qqg (by omega) (by omega),qD (by simp;omega)]
     simp only[qxP]
     rw[qw (by omega),hrec _ i (by simp;omega) (by omega),qhQ hc,qxS]
     rw[show ((i+1:Nat):Int)-(i:Int)=1 from by omega,show ((i-b:Nat):Int)=(i:Int)-b from by omega]
     rfl
   rw[if_pos (by simp;omega)]
   by_cases h0:0<i
   ·have hp:i-1<fr0.length:=by omega
    rw[if_pos (by simp;omega),jZ (by omega) (by omega),qs,qxR hp]
    simp only[qxP]
    rw[qeg (by omega) (by omega)]
    simp only[qxP]
    rw[hj,if_pos h0]
    have:fr0.getD (i-1) 0=fr0[i-1]:=by simp[qyO,qxR hp]
    rw[this];rfl
   ·rw[if_neg (by simp;omega),hj,if_neg h0]
  ·rw[if_neg (by simp;omega),qxW (by omega)]
   unfold qcD
   have:=qkJ hF (fr0:=fr0) (o:=o) hfm hm F 0 [] (by omega) (by omega) (by simp)
   rw[qx8,qx6,show ((0:Nat):Int)=0 from rfl] at this
   rw[this]
   simp[tb]
theorem qqv {F:Nat}(hF:200000≤F){fr0 l:qAE}(hfm:fr0.length≤300)(hm:l.length≤300):qc0 F fr0 l=some (tbs fr0 l,rst fr0 l):=by
 unfold qc0
 have:=qwM hF hfm hm F 0 [] 0 (by omega) (by omega) (by simp) (by omega)
 rw[qx8,qx6,if_neg (by omega),show ((0:Nat):Int)=0 from rfl] at this
 exact this
def okB:Bool→qAE→Bool
 | _,[]=>true
 | f,n::bs=>decide (0≤n) && (f || decide (1≤n)) && okB false bs
def bsum:qAE→Int
 | []=>0
 | n::bs=>n+bsum bs
theorem qgx (f:Bool)(n:Int)(bs:qAE):okB f (n::bs)=(decide (0≤n) && (f || decide (1≤n)) && okB false bs):=rfl
theorem qky:∀ {f:Bool} {bs:qAE},okB f bs=true→(∀ n∈bs,0≤n)∧0≤bsum bs
 | _,[],_=>by simp[bsum]
 | f,n::bs,h=>by
  unfold okB at h
  simp only[qys,decide_eq_true_eq] at h
  obtain ⟨h1,h2⟩:=qky h.2
  refine ⟨fun m hm=>?_,?_⟩
  ·rcases qx1.1 hm with rfl | hm
   ·exact h.1.1
   ·exact h1 m hm
  ·unfold bsum;have:=h.1.1;omega
def ccE (L:Int)(f:Bool)(t:Int)(bs:qAE):Int:=if okB f bs then (if L<t+bsum bs then 8 else 0) else 3
theorem qq7 (L:Int)(f:Bool)(t:Int):ccE L f t []=if L<t then 8 else 0:=by simp[ccE,okB,bsum]
theorem qjR {L:Int}{f:Bool}{t n:Int}{bs:qAE}(h:n<0∨(n<1∧f=false)):ccE L f t (n::bs)=3:=by
 unfold ccE okB
 rw[if_neg]
 simp only[qys,qyZ,decide_eq_true_eq]
 rcases h with h | ⟨h,rfl⟩
 ·omega
 ·simp;omega
theorem qth {L:Int}{f:Bool}{t n:Int}{bs:qAE}(h:¬ (n<0∨(n<1∧f=false))):ccE L f t (n::bs)=ccE L false (t+n) bs:=by
 have e:okB f (n::bs)=okB false bs:=by
  rw[qgx]
  cases f
  ·have h1:0≤n:=by omega
   have h2:1≤n:=by
    rcases Int.lt_or_le n 1 with h3 | h3
    ·exact absurd (.inr ⟨h3,rfl⟩) h
    ·exact h3
   simp[h1,h2]
  ·have h1:0≤n:=by omega
   simp[h1]
 unfold ccE
 rw[e]
 have:t+bsum (n::bs)=t+n+bsum bs:=by show t+(n+bsum bs)=_;omega
 rw[this]
theorem qnp {L:Int}{f:Bool}{t t':Int}{bs:qAE}(h:L<t)(h':L<t'):ccE L f t bs=ccE L f t' bs:=by
 unfold ccE
 by_cases ho:okB f bs=true
 ·have:=(qky ho).2
  rw[if_pos ho,if_pos ho,if_pos (by omega),if_pos (by omega)]
 ·rw[if_neg ho,if_neg ho]
theorem qpf {F:Nat}{bs:qAE}{L:Nat}(hL:L≤300)(hb:bs.length≤301):∀ (k i:Nat) (s:Int),bs.length<k+i→i≤bs.length→0≤s∧s≤L+1 →
  k9 F bs (L:Int) k (s,(i:Int))=some (ccE L (decide (i=0)) s (bs.drop i))
 | 0,_,_,_,_,_=>by omega
 | k+1,i,s,h,hi,hs=>by
  show qbB F bs (L:Int) (k9 F bs (L:Int) k) s (i:Int)=_
  unfold qbB
  by_cases hlt:i<bs.length
  ·rw[if_pos (by simp;omega),qs,qxR hlt,qxT hlt]
   simp only[qxP]
   have hrec:=fun s hs=>qpf (F:=F) hL hb k (i+1) s (by omega) (by omega) hs
   rw[decide_eq_false (show ¬ i+1=0 by omega)] at hrec
   generalize bs[i]=n at hrec ⊢
   generalize bs.drop (i+1)=R at hrec ⊢
   unfold qbC
   by_cases h1:n<0
   ·rw[if_pos (by simpa using h1),if_pos rfl,qjR (.inl h1)]
   ·rw[if_neg (by simpa using h1)]
    by_cases h2:n<1∧0<i
    ·rw[if_pos (by simp;omega),qjR (.inr ⟨h2.1,decide_eq_false (by omega)⟩)]
    ·have h3:¬ (n<0∨(n<1∧decide (i=0)=false)):=by
      rintro (h | ⟨h,hd⟩)
      ·exact h1 h
      ·have:=of_decide_eq_false hd;omega
     rw[if_neg (by simp;omega),qth h3]
     unfold lett
     have em:imin n (iadd .i64 (L:Int) 1)=if n≤L then n else (L:Int)+1:=by
      rw[qA (by omega) (by omega)]
      unfold imin
      by_cases hn:n≤L
      ·rw[if_pos hn,if_neg (by omega)]
      ·rw[if_neg hn]
       by_cases hn2:(L:Int)+1<n
       ·rw[if_pos hn2]
       ·rw[if_neg hn2];omega
     rw[em,qw (by omega)]
     by_cases hn:n≤L
     ·rw[if_pos hn,qA (a:=s) (by omega) (by omega),qA (by omega) (by omega)]
      unfold imin
      by_cases hc:(L:Int)+1<s+n
      ·rw[if_pos hc]
       simp only
       rw[hrec _ (by omega),qnp (t':=s+n) (by omega) (by omega)]
      ·rw[if_neg hc]
       simp only
       rw[hrec _ (by omega)]
     ·rw[if_neg hn,qA (a:=s) (by omega) (by omega),qA (by omega) (by omega)]
      unfold imin
      by_cases hc:(L:Int)+1<s+(L+1)
      ·rw[if_pos hc]
       simp only
       rw[hrec _ (by omega),qnp (t':=s+n) (by omega) (by omega)]
      ·rw[if_neg hc]
       simp only
       rw[hrec _ (by omega),qnp (t':=s+n) (by omega) (by omega)]
  ·rw[if_neg (by simp;omega),qxW (by omega),qq7]
   unfold qdU
   by_cases h8:(L:Int)<s
   ·rw[if_pos (by simpa using h8),if_pos h8]
   ·rw[if_neg (by simpa using h8),if_neg h8]
def bkE (L:Nat)(bs:qAE):Int:=if L+1<bs.length then 2 else ccE L true 0 bs
theorem qsz {F:Nat}(hF:200000≤F){bs:qAE}{L:Nat}(hL:L≤300):qeH F bs (L:Int)=some (bkE L bs):=by
 unfold qeH bkE
 rw[qw (by omega)]
 by_cases h:L+1<bs.length
 ·rw[if_pos (by simp;omega),if_pos h]
 ·rw[if_neg (by simp;omega),if_neg h]
  exact qpf hL (by omega) F 0 0 (by omega) (by omega) (by omega)
theorem qwQ {L:Nat}{bs:qAE}:bkE L bs=0↔bs.length≤L+1∧okB true bs=true∧bsum bs≤L:=by
 unfold bkE ccE
 by_cases h:L+1<bs.length
 ·rw[if_pos h];simp;omega
 ·rw[if_neg h]
  by_cases h2:okB true bs=true
  ·rw[if_pos h2]
   by_cases h3:(L:Int)<0+bsum bs
   ·rw[if_pos h3];simp;omega
   ·rw[if_neg h3];simp[h2];omega
  ·rw[if_neg h2];simp[h2]
def cp:qAE→qAE→Bool→qAE
 | l,[],c=>if c then l else []
 | l,n::bs,c=>(if c then l.take n.toNat else [])++cp (l.drop n.toNat) bs (!c)
theorem qoU {F:Nat}{bs:qAE}(hbm:bs.length≤1000):∀ (k i:Nat) (l o:qAE) (c:Bool),bs.length<k+i→i≤bs.length→l.length≤300→o.length≤300*i→(∀ n∈bs.drop i,0≤n)→bsum (bs.drop i)≤l.length →
  kP F bs k (l,o,c,(i:Int))=some (o++cp l (bs.drop i) c)
 | 0,_,_,_,_,_,_,_,_,_,_=>by omega
 | k+1,i,l,o,c,h,hi,hl,ho,hn,hs=>by
  show qaK F bs (kP F bs k) l o c (i:Int)=_
  unfold qaK
  by_cases hlt:i<bs.length
  ·rw[qxT hlt] at hn hs ⊢
   have hrec:=fun l o c h1 h2 h3=>qoU (F:=F) hbm k (i+1) l o c (by omega) (by omega) h1 h2 (fun n hn'=>hn n (qx7 _ hn')) h3
   have hg:idx bs (i:Int)=some bs[i]:=by rw[qs,qxR hlt]
   rw[if_pos (by simp;omega),hg]
   have h0:=hn bs[i] (qyf ..)
   have hsum:0≤bsum (bs.drop (i+1)):=by
    have:∀ (R:qAE),(∀ n∈R,0≤n)→0≤bsum R:=by
     intro R
     induction R with
     | nil=>intro _;simp[bsum]
     | cons x R ih=>intro h;unfold bsum;have:=h x (by simp);have:=ih (fun n hn=>h n (by simp[hn]));omega
    exact this _ fun n hn'=>hn n (qx7 _ hn')
   unfold bsum at hs
   generalize bs[i]=n at hrec h0 hs ⊢
   obtain ⟨m,rfl⟩:=qx0 h0
   have hml:m≤l.length:=by omega
   have s1:=qfJ (l:=l) (i:=0) (j:=m) (by omega) hml
   have s2:=qfJ (l:=l) (i:=m) (j:=l.length) hml (qyb _)
   rw[qzf] at s2
   rw[show ((0:Nat):Int)=0 from rfl,qx8] at s1
   simp only[qxP]
   unfold qaL cp
   simp only[qxU]
   cases c
   ·rw[if_neg (by simp),if_neg (by simp),s2,qw (by omega)]
    simp only[qxP,qx6]
    exact hrec _ _ _ (by simp;omega) (by omega) (by rw[qya];omega)
   ·rw[if_pos rfl,if_pos rfl,s1]
    simp only[qxP]
    rw[qD (by simp;omega),s2,qw (by omega)]
    simp only[qxP]
    rw[hrec _ _ _ (by simp;omega) (by simp;omega) (by rw[qya];omega),qxS]
  ·rw[if_neg (by simp;omega),qxW (by omega)]
   unfold qdV qbD cp
   cases c
   ·simp
   ·rw[if_pos rfl,qD (by omega)];simp
def cpE (l bs:qAE):Int:=if gkc l≠0 then gkc l else bkE l.length bs
def cpy (l bs:qAE):qAE×Int:=if cpE l bs≠0 then ([],cpE l bs) else (cp l bs true,0)
theorem qqa {l bs:qAE}:cpE l bs=0↔(l.length≤300∧Ris (-1) l)∧bs.length≤l.length+1∧okB true bs=true∧bsum bs≤l.length:=by
 unfold cpE
 rw[← zn,← qwQ]
 by_cases h:gkc l=0
 ·rw[if_neg (by simp[h])];simp[h]
 ·rw[if_pos h];simp[h]
theorem qqb {l bs:qAE}(h:cpE l bs=0):cpy l bs=(cp l bs true,0):=by unfold cpy;rw[if_neg (by simp[h])]
theorem qjS {l bs:qAE}(h:cpE l bs≠0):cpy l bs=([],cpE l bs):=by unfold cpy;rw[if_pos h]
theorem qrn {l:qAE}(h:gkc l=0):l.length≤300:=(zn.1 h).1
theorem qvo {F:Nat}(hF:200000≤F){l bs:qAE}:qfc F l bs=some (cpy l bs):=by
 unfold qfc
 rw[qgu (by omega)]
 simp only[qxP]
 have hj:qa1 F l bs (cpE l bs)=some (cpy l bs):=by
  unfold qa1
  by_cases h:cpE l bs=0
  ·obtain ⟨⟨h1,h2⟩,h3,h4,h5⟩:=qqa.1 h
   have:=qoU (F:=F) (bs:=bs) (by omega) F 0 l [] true (by omega) (by omega) h1 (by simp) (by rw[qx8];exact (qky h4).1) (by rw[qx8];exact h5)
   rw[qx8,qx6,show ((0:Nat):Int)=0 from rfl] at this
   rw[if_neg (by simp[h]),qqb h]
   unfold qfA
   rw[this];rfl
  ·rw[if_pos (by simpa using h),qjS h]
 by_cases h:gkc l=0
 ·have e:cpE l bs=bkE l.length bs:=by unfold cpE;rw[if_neg (by simp[h])]
  rw[if_pos (by simpa using h),qsz hF (qrn h)]
  simp only[qxP]
  rw[← e];exact hj
 ·have e:cpE l bs=gkc l:=by unfold cpE;rw[if_pos h]
  rw[if_neg (by simpa using h)]
  rw[e] at hj;exact hj
def bo:qAE→Int→Nat
 | [],_=>0
 | n::bs,i=>if n≤i then 1+bo bs (i-n) else 0
theorem qxs {F:Nat}{rec181:(qAE×Int)→Option (qAE×Int)}{l bs o:qAE}{i:Nat}(hi:i≤1000)(hbm:bs.length≤1000)(hn:∀ n∈bs,0≤n∧n≤1000):∀ (k b:Nat) (e:Int),bs.length<k+b→b≤bs.length→0≤e∧e≤i →
  kN F rec181 l bs o (i:Int) k ((b:Int),e)=qaC F rec181 l o (i:Int) ((b+bo (bs.drop b) (i-e):Nat):Int)
 | 0,_,_,_,_,_=>by omega
 | k+1,b,e,h,hb,he=>by
  show qaz F rec181 l bs o (i:Int) (kN F rec181 l bs o (i:Int) k) (b:Int) e=_
  unfold qaz
  by_cases hlt:b<bs.length
  ·have h0:=hn bs[b] (qx9 hlt)
   have hg:idx bs (b:Int)=some bs[b]:=by rw[qs,qxR hlt]
   have hrec:=fun e he=>qxs (F:=F) (rec181:=rec181) (l:=l) (o:=o) hi hbm hn k (b+1) e (by omega) (by omega) he
   rw[if_pos (by simp;omega),hg,qxT hlt]
   generalize bs[b]=n at h0 hg ⊢
   simp only[qxP]
   unfold vK bo
   rw[qA (by omega) (by omega),hg]
   by_cases hc:e+n≤i
   ·rw[if_pos (by simpa using hc),if_pos (by omega)]
    simp only[qxP]
    rw[qw (by omega),qA (a:=e) (by omega) (by omega),hrec (e+n) (by omega)]
    rw[show b+1+bo (bs.drop (b+1)) (i-(e+n))=b+(1+bo (bs.drop (b+1)) (i-e-n)) from by rw[show (i:Int)-(e+n)=i-e-n from by omega];omega]
   ·rw[if_neg (by simpa using hc),if_neg (by omega)]
    rfl
  ·rw[if_neg (by simp;omega),qxW (by omega)]
   unfold vK
   rw[if_neg (by simp)]
   rfl
def kp (p:Nat→Bool):Nat→qAE→qAE
 | _,[]=>[]
 | i,x::t=>if p i then x::kp p (i+1) t else kp p (i+1) t
theorem qtH (p:Nat→Bool):∀ (i:Nat) (a b:qAE),kp p i (a++b)=kp p i a++kp p (i+a.length) b
 | i,[],b=>rfl
 | i,x::a,b=>by
  show (if p i then x::kp p (i+1) (a++b) else kp p (i+1) (a++b))=_
  rw[qtH p (i+1) a b,qxY,show i+1+a.length=i+(a.length+1) from by omega]
  show _=(if p i then x::kp p (i+1) a else kp p (i+1) a)++_
  split <;> rfl
theorem qo5 {p q:Nat→Bool}:∀ (i d:Nat) (l:qAE),(∀ j,i≤j→j<i+l.length→p (j+d)=q j)→kp p (i+d) l=kp q i l
 | _,_,[],_=>rfl
 | i,d,x::t,h=>by
  show (if p (i+d) then _ else _)=(if q i then _ else _)
  have h1:=h i (qyb _) (by simp)
  have h2:=qo5 (i+1) d t (fun j hj1 hj2=>h j (by omega) (by rw[qxY];omega))
  rw[h1,show i+d+1=i+1+d from by omega,h2]
theorem qkt {p:Nat→Bool}{c:Bool}:∀ (i:Nat) (l:qAE),(∀ j,i≤j→j<i+l.length→p j=c)→kp p i l=if c then l else []
 | _,[],_=>by cases c <;> rfl
 | i,x::t,h=>by
  have h1:=h i (qyb _) (by simp)
  have h2:=qkt (p:=p) (c:=c) (i+1) t (fun j hj1 hj2=>h j (by omega) (by rw[qxY];omega))
  show (if p i then _ else _)=_
  rw[h1,h2]
  cases c <;> simp
theorem qww:∀ (bs l:qAE) (c:Bool),(∀ n∈bs,0≤n)→bsum bs≤l.length→cp l bs c=kp (fun i=>((bo bs (i:Int))%2 == 0) == c) 0 l
 | [],l,c,_,_=>by
  rw[qkt (c:=c) 0 l (fun j _ _=>by cases c <;> rfl)]
  rfl
 | n::bs,l,c,hn,hs=>by
  have h0:=hn n (by simp)
  have hnn:0≤bsum bs:=by
   have:∀ (R:qAE),(∀ n∈R,0≤n)→0≤bsum R:=by
    intro R
    induction R with
    | nil=>intro _;simp[bsum]
    | cons x R ih=>intro h;unfold bsum;have:=h x (by simp);have:=ih (fun n hn=>h n (by simp[hn]));omega
   exact this _ fun m hm=>hn m (by simp[hm])
  obtain ⟨m,rfl⟩:=qx0 h0
  unfold bsum at hs
  have hml:m≤l.length:=by omega
  have ih:=qww bs (l.drop m) (!c) (fun k hk=>hn k (by simp[hk])) (by rw[qya];omega)
  unfold cp
  simp only[qxU]
  conv=>rhs;rw[← qyA m l,qtH]
  have hlt:(l.take m).length=m:=by rw[qye];omega
  congr 1
  ·rw[qkt (c:=c) 0 (l.take m) (fun j _ hj=>by
    rw[hlt] at hj
    have:bo ((m:Int)::bs) (j:Int)=0:=by unfold bo;rw[if_neg (by omega)]
    rw[this];cases c <;> rfl)]
  ·rw[ih,hlt]
   refine (qo5 0 m (l.drop m) fun j _ _=>?_).symm
   have:bo ((m:Int)::bs) ((j+m:Nat):Int)=1+bo bs (j:Int):=by
    show (if (m:Int)≤((j+m:Nat):Int) then 1+bo bs (((j+m:Nat):Int)-m) else 0)=_
    rw[if_pos (by omega),show ((j+m:Nat):Int)-m=(j:Int) from by omega]
   rw[this]
   generalize bo bs (j:Int)=q
   rcases Nat.mod_two_eq_zero_or_one q with h | h
   ·rw[h,show (1+q)%2=1 from by omega];cases c <;> rfl
   ·rw[h,show (1+q)%2=0 from by omega];cases c <;> rfl
theorem qrM {F:Nat}(hF:200000≤F){l bs:qAE}(hlm:l.length≤300)(hbm:bs.length≤1000)(hn:∀ n∈bs,0≤n∧n≤1000):∀ (k i:Nat) (o:qAE),l.length<k+i→i≤l.length→o.length≤i →
  qP F l bs k (o,(i:Int))=some (o++kp (fun i=>((bo bs (i:Int))%2 == 0) == true) i (l.drop i),0)
 | 0,_,_,_,_,_=>by omega
 | k+1,i,o,h,hi,ho=>by
  show qay F l bs (qP F l bs k) o (i:Int)=_
  unfold qay
  by_cases hlt:i<l.length
  ·have hb:=qxs (F:=F) (rec181:=qP F l bs k) (l:=l) (o:=o) (i:=i) (by omega) hbm hn F 0 0 (by omega) (by omega) (by omega)
   rw[qx8,qyI,Int.sub_zero,show ((0:Nat):Int)=0 from rfl] at hb
   have hrec:=fun o h=>qrM hF hlm hbm hn k (i+1) o (by omega) (by omega) h
   rw[if_pos (by simp;omega),hb,qxT hlt]
   unfold qaC qaB kp
   rw[qrw (by omega),qs,qxR hlt,qw (by omega)]
   simp only[qxP]
   generalize bo bs (i:Int)=q
   rcases Nat.mod_two_eq_zero_or_one q with hq | hq
   ·rw[if_pos (by simp;omega),qD (by simp;omega),if_pos (by rw[hq];rfl)]
    simp only[qxP]
    rw[hrec _ (by simp;omega),qxS]
    rfl
   ·rw[if_neg (by simp;omega),if_neg (by rw[hq];decide),hrec _ (by omega)]
  ·rw[if_neg (by simp;omega),qxW (by omega)]
   simp[qdl,kp]
theorem qud {F:Nat}{l bs:qAE}(hlm:l.length≤300)(hbm:bs.length≤301):∀ (k i:Nat) (s t:Int),bs.length<k+i→i≤bs.length→(0≤t∧(s=t∧t≤2000∨1000≤s∧s≤2000∧(l.length:Int)<t)) →
  zQ F l bs k (s,(i:Int))=if ccE l.length (decide (i=0)) t (bs.drop i)≠0 then some ([],ccE l.length (decide (i=0)) t (bs.drop i)) else qP F l bs F ([],0)
 | 0,_,_,_,_,_,_=>by omega
 | k+1,i,s,t,h,hi,hs=>by
  show qaA F l bs (zQ F l bs k) s (i:Int)=_
  unfold qaA
  by_cases hlt:i<bs.length
  ·have hg:idx bs (i:Int)=some bs[i]:=by rw[qs,qxR hlt]
   have hrec:=fun s t hs=>qud (F:=F) hlm hbm k (i+1) s t (by omega) (by omega) hs
   rw[decide_eq_false (show ¬ i+1=0 by omega)] at hrec
   rw[if_pos (by simp;omega),hg,qxT hlt]
   generalize bs[i]=n at hg ⊢
   generalize bs.drop (i+1)=R at hrec ⊢
   simp only[qxP]
   unfold qaE
   by_cases h1:n<0
   ·rw[if_pos (by simpa using h1),if_pos rfl,qjR (.inl h1),if_pos (by decide)]
   ·rw[if_neg (by simpa using h1)]
    by_cases h2:n<1∧0<i
    ·rw[if_pos (by simp;omega),qjR (.inr ⟨h2.1,decide_eq_false (by omega)⟩),if_pos (by decide)]
    ·have h3:¬ (n<0∨(n<1∧decide (i=0)=false)):=by
      rintro (h | ⟨h,hd⟩)
      ·exact h1 h
      ·have:=of_decide_eq_false hd;omega
     rw[if_neg (by simp;omega),qth h3,hg]
     simp only[qxP]
     unfold qaF qaD
     rw[hg,qw (by omega)]
     by_cases hL:(l.length:Int)<n
     ·rw[if_pos (by simpa using hL),if_neg (by decide)]
      exact hrec 1000 (t+n) ⟨by omega,.inr ⟨by omega,by omega,by omega⟩⟩
     ·rw[if_neg (by simpa using hL)]
      by_cases hs1:s<1000
      ·rw[if_pos (by simpa using hs1)]
       simp only[qxP]
       rw[qA (by omega) (by omega)]
       exact hrec (s+n) (t+n) ⟨by omega,.inl ⟨by omega,by omega⟩⟩
      ·rw[if_neg (by simpa using hs1)]
       exact hrec s (t+n) ⟨by omega,.inr ⟨by omega,by omega,by omega⟩⟩
  ·rw[if_neg (by simp;omega),qxW (by omega),qq7]
   unfold qdB
   by_cases h8:(l.length:Int)<s
   ·rw[if_pos (by simpa using h8),if_pos (show (l.length:Int)<t by omega),if_pos (by decide)]
   ·rw[if_neg (by simpa using h8),if_neg (show ¬ (l.length:Int)<t by omega),if_neg (by simp)]
theorem que {F:Nat}(hF:200000≤F){l bs:qAE}:qew F l bs=some (cpy l bs):=by
 unfold qew
 rw[qhH (by omega)]
 simp only[qxP]
 by_cases h:gkc l=0
 ·have hlm:=qrn h
  have e:cpE l bs=bkE l.length bs:=by unfold cpE;rw[if_neg (by simp[h])]
  rw[if_neg (by simp[h]),qw (by omega)]
  by_cases h2:l.length+1<bs.length
  ·have e2:bkE l.length bs=2:=by unfold bkE;rw[if_pos h2]
   rw[if_pos (by simp;omega),qjS (by rw[e,e2];decide),e,e2]
  ·have e2:bkE l.length bs=ccE l.length true 0 bs:=by unfold bkE;rw[if_neg h2]
   have hc:=qud (F:=F) (l:=l) (bs:=bs) hlm (by omega) F 0 0 0 (by omega) (by omega) ⟨by omega,.inl ⟨rfl,by omega⟩⟩
   rw[qx8,show ((0:Nat):Int)=0 from rfl,decide_eq_true (rfl:0=0),← e2,← e] at hc
   rw[if_neg (by simp;omega),hc]
   by_cases h3:cpE l bs=0
   ·obtain ⟨_,q1,q2,q3⟩:=qqa.1 h3
    obtain ⟨n1,n2⟩:=qky q2
    have hle:∀ (R:qAE),(∀ n∈R,0≤n)→∀ n∈R,n≤bsum R:=by
     intro R
     induction R with
     | nil=>intro _ n hn;simp at hn
     | cons x R ih =>
      intro h n hn
      have hx:=h x (by simp)
      have hR:0≤bsum R:=by
       have:∀ (R:qAE),(∀ n∈R,0≤n)→0≤bsum R:=by
        intro R
        induction R with
        | nil=>intro _;simp[bsum]
        | cons x R ih=>intro h;unfold bsum;have:=h x (by simp);have:=ih (fun n hn=>h n (by simp[hn]));omega
       exact this R fun n hn=>h n (by simp[hn])
      unfold bsum
      rcases qx1.1 hn with rfl | hn
      ·omega
      ·have:=ih (fun n hn=>h n (by simp[hn])) n hn;omega
    have:=qrM hF hlm (bs:=bs) (by omega) (fun n hn=>⟨n1 n hn,by have:=hle bs n1 n hn;omega⟩) F 0 [] (by omega) (by omega) (by simp)
    rw[qx8,qx6,show ((0:Nat):Int)=0 from rfl] at this
    rw[if_neg (by simp[h3]),this,qqb h3,qww bs l true n1 q3]
   ·rw[if_pos h3,qjS h3]
 ·have e:cpE l bs=gkc l:=by unfold cpE;rw[if_pos h]
  rw[if_pos (by simpa using h),qjS (by rw[e];exact h),e]
theorem qr0:∀ {e:Int} {R:List (Int×Int)},Sep e R→∀ r∈R,e<r.1
 | _,[],_=>by simp
 | e,r::R,h=>by
  intro r' hr
  rcases qx1.1 hr with rfl | hr
  ·exact h.1
  ·have:=qr0 h.2.2 r' hr;have:=h.1;have:=h.2.1;omega
def Mx (l:qAE)(r:Int×Int):Prop:=1≤r.2∧r.1-1∉l∧r.1+r.2∉l∧∀ z,r.1≤z→z<r.1+r.2→z∈l
theorem qqB:∀ {e:Int} {R:List (Int×Int)},Sep e R→∀ r∈R,Mx (flat R) r
 | _,[],_=>by simp
 | e,r::R,h=>by
  intro r' hr
  have h1:=h.2.1
  have hlt:=qqA h.2.2
  rcases qx1.1 hr with rfl | hr
  ·refine ⟨h1,fun hm=>?_,fun hm=>?_,fun z h2 h3=>?_⟩
   ·rw[zO] at hm
    rcases qxV.1 hm with hm | hm
    ·have:=qdZ.1 hm;omega
    ·have:=hlt _ hm;omega
   ·rw[zO] at hm
    rcases qxV.1 hm with hm | hm
    ·have:=qdZ.1 hm;omega
    ·have:=hlt _ hm;omega
   ·rw[zO]
    exact qxV.2 (.inl (qdZ.2 (by omega)))
  ·obtain ⟨i1,i2,i3,i4⟩:=qqB h.2.2 r' hr
   have hf:=qr0 h.2.2 r' hr
   refine ⟨i1,fun hm=>?_,fun hm=>?_,fun z h2 h3=>?_⟩
   ·rw[zO] at hm
    rcases qxV.1 hm with hm | hm
    ·have:=qdZ.1 hm;omega
    ·exact i2 hm
   ·rw[zO] at hm
    rcases qxV.1 hm with hm | hm
    ·have:=qdZ.1 hm;omega
    ·exact i3 hm
   ·rw[zO]
    exact qxV.2 (.inr (i4 z h2 h3))
theorem rdown {x a:Int}(hF:1000000<F)(hl:l.length≤1000000)(ha:-1000000000≤a∧a≤1000000000)(h0:a-1∉l):∀ (j k:Nat),j<k→j≤1000000→(∀ z,a≤z→z<a+j→z∈l) →
  kW F rec68 l least o rest i x k (a+j)=qbn F rec68 l least o rest i x a
 | _,0,h,_,_=>by omega
 | 0,k+1,_,_,_=>by
  show yN F rec68 l least o rest i x (kW F rec68 l least o rest i x k) (a+((0:Nat):Int))=_
  unfold yN
  rw[show a+((0:Nat):Int)=a from by omega,qG (by omega) (by omega),qeg (by omega) hl,decide_eq_false h0]
  rfl
 | j+1,k+1,h,hj,hz=>by
  show yN F rec68 l least o rest i x (kW F rec68 l least o rest i x k) (a+((j+1:Nat):Int))=_
  unfold yN
  rw[qG (by omega) (by omega),show a+((j+1:Nat):Int)-1=a+(j:Int) from by omega,qeg (by omega) hl,decide_eq_true (hz _ (by omega) (by omega))]
  exact rdown hF hl ha h0 j k (by omega) (by omega) (fun z h1 h2=>hz z h1 (by omega))
theorem rup {b fr0:Int}(hF:1000000<F)(hl:l.length≤1000000)(hb:-1000000000≤b∧b≤1000000000)(h0:b+1∉l):∀ (j k:Nat),j<k→j≤1000000→(∀ z,b-j<z→z≤b→z∈l) →
  kV F rec68 l least o rest i fr0 k (b-j)=qbo F rec68 l least o rest i fr0 b
 | _,0,h,_,_=>by omega
 | 0,k+1,_,_,_=>by
  show yM F rec68 l least o rest i fr0 (kV F rec68 l least o rest i fr0 k) (b-((0:Nat):Int))=_
  unfold yM
  rw[show b-((0:Nat):Int)=b from by omega,qA (by omega) (by omega),qeg (by omega) hl,decide_eq_false h0]
  rfl
 | j+1,k+1,h,hj,hz=>by
  show yM F rec68 l least o rest i fr0 (kV F rec68 l least o rest i fr0 k) (b-((j+1:Nat):Int))=_
  unfold yM
  rw[qA (by omega) (by omega),show b-((j+1:Nat):Int)+1=b-(j:Int) from by omega,qeg (by omega) hl,decide_eq_true (hz _ (by omega) (by omega))]
  exact rup hF hl hb h0 j k (by omega) (by omega) (fun z h1 h2=>hz z (by omega) h2)
def oj (least:Int)(o:List (Int×Int))(r:Int×Int)(j:Nat):List (Int×Int):=if least≤r.2∧0<j then o++[r] else o
def rj (least:Int)(rest:qAE)(r:Int×Int)(j:Nat):qAE:=if least≤r.2 then rest else rest++rng r.1 j
theorem rstep {F:Nat}{l:qAE}{least:Int}{o:List (Int×Int)}{rest:qAE}{r:Int×Int}(hF:1000000<F)(hl:l.length≤300)(hr:Mx l r)(ha:-1000000≤r.1∧r.1≤10000000)(hn:r.2≤300)(hlm:o.length+rest.length≤1000000){i j k:Nat}(hj:j<r.2.toNat)(hi:l[i]?=some (r.1+j)) :
  qE F l least (k+1) (oj least o r j,rj least rest r j,(i:Int))=qE F l least k (oj least o r (j+1),rj least rest r (j+1),((i+1:Nat):Int)):=by
 obtain ⟨h1,h2,h3,h4⟩:=hr
 obtain ⟨a,n⟩:=r
 simp only at h1 h2 h3 h4 ha hn hj hi
 have hil:=(qx5.1 hi).1
 show yL F l least (qE F l least k) (oj least o (a,n) j) (rj least rest (a,n) j) (i:Int)=_
 unfold yL
 rw[if_pos (by simp;omega),qs,hi]
 simp only[qxP]
 rw[rdown hF (by omega) (by omega) h2 j F (by omega) (by omega) (fun z z1 z2=>h4 z z1 (by omega))]
 unfold qbn
 rw[show a+(j:Int)=(a+n-1)-((n.toNat-1-j:Nat):Int) from by omega,rup hF (by omega) (by omega) (by rw[show a+n-1+1=a+n from by omega];exact h3) _ F (by omega) (by omega) (fun z z1 z2=>h4 z (by omega) (by omega))]
 unfold qbo
 rw[qG (by omega) (by omega),qA (by omega) (by omega),show a+n-1-a+1=n from by omega,qs,hi]
 simp only[qxP]
 unfold oj rj jp
 simp only
 by_cases hc:least≤n
 ·rw[if_neg (by simp;omega)]
  by_cases hj0:j=0
  ·subst hj0
   rw[if_pos (by simp),if_pos hc,if_neg (by simp),if_pos ⟨hc,by omega⟩,if_pos hc,qD (by simp;omega),qw (by omega)]
   rfl
  ·rw[if_neg (by simp;omega),if_pos hc,if_pos ⟨hc,by omega⟩,if_pos ⟨hc,by omega⟩,if_pos hc,qw (by omega)]
 ·rw[if_pos (by simp;omega),if_neg hc,if_neg (by omega),if_neg (by omega),if_neg hc,qD (by simp[va];omega),qw (by omega)]
  simp only[qxP]
  rw[qxS,← qhk]
theorem rrun {F:Nat}{l:qAE}{least:Int}{o:List (Int×Int)}{rest:qAE}{r:Int×Int}(hF:1000000<F)(hl:l.length≤300)(hr:Mx l r)(ha:-1000000≤r.1∧r.1≤10000000)(hn:r.2≤300)(hlm:o.length+rest.length≤1000000){i k:Nat}(hi:∀ j,j<r.2.toNat→l[i+j]?=some (r.1+j)) :
  ∀ (m j:Nat),j+m=r.2.toNat→qE F l least (k+m) (oj least o r j,rj least rest r j,((i+j:Nat):Int))=qE F l least k (oj least o r r.2.toNat,rj least rest r r.2.toNat,((i+r.2.toNat:Nat):Int))
 | 0,j,h=>by rw[← h];rfl
 | m+1,j,h=>by
  rw[← qyM,rstep hF hl hr ha hn hlm (by omega) (hi j (by omega))]
  exact rrun hF hl hr ha hn hlm hi m (j+1) (by omega)
theorem rall {F:Nat}{l:qAE}{least:Int}(hF:1000000<F)(hl:l.length≤300):∀ (R:List (Int×Int)) (o:List (Int×Int)) (rest:qAE) (i k:Nat),(∀ r∈R,Mx l r∧(-1000000≤r.1∧r.1≤10000000)∧r.2≤300)→l.drop i=flat R→i≤l.length→o.length+R.length+(rest.length+(flat R).length)≤1000000 →
  qE F l least (k+1+(flat R).length) (o,rest,(i:Int))=some (o++spO least R,rest++flat (spS least R))
 | [],o,rest,i,k,_,hd,hi,_=>by
  have:l.length≤i:=by
   have:=congrArg List.length hd
   rw[qya] at this
   simp[flat] at this
   omega
  show yL F l least (qE F l least k) o rest (i:Int)=_
  unfold yL
  rw[if_neg (by simp;omega)]
  simp[qdE,spO,spS,flat]
 | r::R,o,rest,i,k,hR,hd,hi,hlm=>by
  obtain ⟨h1,h2,h3⟩:=hR r (by simp)
  have hn:=h1.1
  rw[zO,qxQ,va,qxY] at hlm
  rw[zO] at hd
  have hget:∀ j,j<r.2.toNat→l[i+j]?=some (r.1+j):=by
   intro j hj
   rw[← qyF,hd,qy4 (by rw[va];exact hj),qrS hj]
  have hrun:=rrun (least:=least) (o:=o) (rest:=rest) (k:=k+1+(flat R).length) hF hl h1 h2 h3 (by omega) hget r.2.toNat 0 (by omega)
  have e1:oj least o r 0=o:=by unfold oj;rw[if_neg (by omega)]
  have e2:rj least rest r 0=rest:=by unfold rj;split <;> simp[rng]
  rw[e1,e2,show i+0=i from rfl] at hrun
  rw[zO,qxQ,va,show k+1+(r.2.toNat+(flat R).length)=k+1+(flat R).length+r.2.toNat from by omega,hrun]
  have hd':l.drop (i+r.2.toNat)=flat R:=by
   rw[← qzB,hd,List.drop_left' (va _ _)]
  have hlen:i+r.2.toNat≤l.length:=by
   have:=congrArg List.length hd
   rw[qya,qxQ,va] at this
   omega
  have hlo:(oj least o r r.2.toNat).length+R.length+((rj least rest r r.2.toNat).length+(flat R).length)≤1000000:=by
   unfold oj rj
   by_cases hc:least≤r.2
   ·rw[if_pos ⟨hc,by omega⟩,if_pos hc];simp;omega
   ·rw[if_neg (by omega),if_neg hc];simp[va];omega
  rw[rall hF hl R _ _ _ k (fun r' hr'=>hR r' (by simp[hr'])) hd' hlen hlo]
  unfold oj rj
  by_cases hc:least≤r.2
  ·rw[if_pos ⟨hc,by omega⟩,if_pos hc,quE hc,quF hc,qxS];rfl
  ·rw[if_neg (by omega),if_neg hc,quD hc,quG hc,zO,qxS]
theorem qsF {F:Nat}(hF:2000000≤F){q:Int}{l:qAE}{least:Int}(hl:l.length≤300)(h:Ris q l):qex F l least=some (spO least (rs l),flat (spS least (rs l))):=by
 unfold qex
 have hs:=qio (jO h).1 (jO h).2
 have hfl:=qeL l
 have hlong:=qgt hs
 rw[hfl] at hlong
 have hR:∀ r∈rs l,Mx l r∧(-1000000≤r.1∧r.1≤10000000)∧r.2≤300:=by
  intro r hr
  have hm:=qqB hs r hr
  rw[hfl] at hm
  have h2:=qhy hr
  rw[hfl] at h2
  have hx:=qim h _ (hm.2.2.2 r.1 (by omega) (by have:=hm.1;omega))
  unfold Nd at hx
  exact ⟨hm,by omega,by omega⟩
 have:=rall (F:=F) (l:=l) (least:=least) (by omega) hl (rs l) [] [] 0 (F-l.length-1) hR (by rw[hfl];rfl) (by omega) (by rw[hfl];simp;omega)
 rw[hfl,show F-l.length-1+1+l.length=F from by omega] at this
 simpa using this
theorem qmQ {F:Nat}{x a b:Int}:qcP F x a b=some (decide (a≤x∧x≤b)):=by
 unfold qcP
 congr 1
 by_cases h:a≤x <;> by_cases h2:x≤b <;> simp[h,h2]
def RunOk (r:Int×Int):Prop:=(0≤r.1∧r.1≤1048576)∧(1≤r.2∧r.2≤300)∧r.1+r.2-1≤1048576
instance runOkDec (r:Int×Int):Decidable (RunOk r):=inferInstanceAs (Decidable (_∧_∧_))
def sk:Int→List (Int×Int)→Int
 | _,[]=>0
 | e,r::R=>if RunOk r then (if r.1<e+2 then 4 else sk (r.1+r.2-1) R) else 3
theorem quC:∀ {e:Int} {R:List (Int×Int)},sk e R=0↔(∀ r∈R,RunOk r)∧Sep (e+1) R
 | _,[]=>by simp[sk,Sep]
 | e,r::R=>by
  unfold sk Sep
  by_cases h:RunOk r
  ·rw[if_pos h]
   by_cases h2:r.1<e+2
   ·rw[if_pos h2];simp;omega
   ·rw[if_neg h2,quC]
    rw[show r.1+r.2-1+1=r.1+r.2 from by omega]
    have h3:1≤r.2:=h.2.1.1
    constructor
    ·rintro ⟨h4,h5⟩
     exact ⟨fun r' hr=>by rcases qx1.1 hr with rfl | hr;exact h;exact h4 r' hr,by omega,h3,h5⟩
    ·rintro ⟨h4,_,_,h5⟩
     exact ⟨fun r' hr=>h4 r' (by simp[hr]),h5⟩
  ·rw[if_neg h]
   constructor
   ·intro h3;simp at h3
   ·rintro ⟨h4,_⟩;exact absurd (h4 r (by simp)) h
theorem qi8:∀ {R:List (Int×Int)},(∀ r∈R,RunOk r)→(flat R).length≤300*R.length
 | [],_=>by simp[flat]
 | r::R,h=>by
  have h1:=qi8 (R:=R) fun r hr=>h r (by simp[hr])
  have h2:=h r (by simp)
  unfold RunOk at h2
  rw[zO,qxQ,va,qxY]
  omega
theorem qmy {F:Nat}{rec32:(qAE×Int)→Option (qAE×Int)}{i:Int}{r:Int×Int}{acc:qAE}(hr:RunOk r)(ha:acc.length≤1000000):∀ (k j:Nat),r.2.toNat<k+j→j≤r.2.toNat →
  yX F rec32 i r k (acc++rng r.1 j,(j:Int))=qbM F rec32 i (acc++rng r.1 r.2.toNat)
 | 0,_,_,_=>by omega
 | k+1,j,h,hj=>by
  unfold RunOk at hr
  show qbJ F rec32 i r (yX F rec32 i r k) (acc++rng r.1 j) (j:Int)=_
  unfold qbJ
  by_cases hlt:j<r.2.toNat
  ·rw[if_pos (by simp;omega),qA (by omega) (by omega),qD (by simp[va];omega),qw (by omega)]
   simp only[qxP]
   rw[qxS,← qhk]
   exact qmy hr ha k (j+1) (by omega) (by omega)
  ·rw[if_neg (by simp;omega)]
   obtain rfl:j=r.2.toNat:=by omega
   rfl
theorem qso {R:List (Int×Int)}{i:Nat}(h:i<R.length):flat (R.take (i+1))=flat (R.take i)++rng R[i].1 R[i].2.toNat:=by
 rw[qzu,qxR h,qki]
 simp[flat]
theorem qkS {F:Nat}(hF:1000<F){R:List (Int×Int)}(hR:∀ r∈R,RunOk r)(hl:R.length≤300):∀ (k i:Nat),R.length<k+i→i≤R.length →
  zw F R k (flat (R.take i),(i:Int))=some (flat R,0)
 | 0,_,_,_=>by omega
 | k+1,i,h,hi=>by
  show qbI F R (zw F R k) (flat (R.take i)) (i:Int)=_
  unfold qbI
  by_cases hlt:i<R.length
  ·have hok:=hR _ (qx9 hlt)
   have hsz:=qi8 (R:=R.take i) fun r hr=>hR r (qyV hr)
   rw[qye] at hsz
   have hsp:=qmy (F:=F) (rec32:=zw F R k) (i:=(i:Int)) (acc:=flat (R.take i)) hok (by omega) F 0 (by unfold RunOk at hok;omega) (by omega)
   rw[rng,qyh,show ((0:Nat):Int)=0 from rfl] at hsp
   rw[if_pos (by simp;omega),qs,qxR hlt]
   simp only[qxP]
   rw[hsp,← qso hlt]
   unfold qbM
   rw[qw (by omega)]
   exact qkS hF hR hl k (i+1) (by omega) (by omega)
  ·rw[if_neg (by simp;omega)]
   obtain rfl:i=R.length:=by omega
   rw[qzf];rfl
theorem qks {a b:Int}(h1:-1000000000≤a∧a≤1000000000)(h2:-1000000000≤b∧b≤1000000000):isub .i64 (iadd .i64 a b) 1=a+b-1:=by
 rw[qA (by omega) (by omega),qG (by omega) (by omega)]
theorem qkR {F:Nat}{R:List (Int×Int)}(hl:R.length≤300):∀ (k i:Nat) (e:Int),R.length<k+i→i≤R.length→-2≤e∧e≤1048576 →
  yb F R k (e,(i:Int))=if sk e (R.drop i)≠0 then some ([],sk e (R.drop i)) else qbL F R
 | 0,_,_,_,_,_=>by omega
 | k+1,i,e,h,hi,he=>by
  show qbK F R (yb F R k) e (i:Int)=_
  unfold qbK
  by_cases hlt:i<R.length
  ·rw[if_pos (by simp;omega),qs,qxR hlt,qxT hlt,sk]
   generalize R[i]=r
   simp only[qxP]
   rw[qmQ,qmQ]
   simp only[qxP]
   by_cases h1:0≤r.1∧r.1≤1048576
   ·rw[decide_eq_true h1,if_neg (by simp)]
    by_cases h2:1≤r.2∧r.2≤300
    ·rw[decide_eq_true h2,if_neg (by simp),qks (by omega) (by omega)]
     unfold jC
     by_cases h3:r.1+r.2-1≤1048576
     ·have hok:RunOk r:=⟨h1,h2,h3⟩
      rw[if_neg (by simp;omega),if_pos hok,qA (by omega) (by omega)]
      by_cases h4:r.1<e+2
      ·rw[if_pos (by simpa using h4),if_pos h4,if_pos (by decide)]
      ·rw[if_neg (by simpa using h4),if_neg h4,qks (by omega) (by omega),qw (by omega)]
       exact qkR hl k (i+1) _ (by omega) (by omega) (by omega)
     ·have hok:¬ RunOk r:=fun h=>h3 h.2.2
      rw[if_pos (by simp;omega),if_neg hok,if_pos (by decide)]
    ·have hok:¬ RunOk r:=fun h=>h2 h.2.1
     rw[decide_eq_false h2,if_pos (by simp),if_neg hok,if_pos (by decide)]
     rfl
   ·have hok:¬ RunOk r:=fun h=>h1 h.1
    rw[decide_eq_false h1,if_pos (by simp),if_neg hok,if_pos (by decide)]
    rfl
  ·rw[if_neg (by simp;omega),qxW (by omega),sk,if_neg (by simp)]
def skc (R:List (Int×Int)):Int:=if 300<R.length then 2 else sk (-2) R
def spd (R:List (Int×Int)):qAE×Int:=if skc R≠0 then ([],skc R) else (flat R,0)
theorem qqD {R:List (Int×Int)}:skc R=0↔R.length≤300∧(∀ r∈R,RunOk r)∧Sep (-1) R:=by
 unfold skc
 by_cases h:300<R.length
 ·rw[if_pos h];simp;omega
 ·rw[if_neg h,quC]
  simp
  omega
theorem qsL {F:Nat}(hF:20000≤F){R:List (Int×Int)}:qeJ F R=some (spd R):=by
 unfold qeJ spd
 by_cases h:300<R.length
 ·have e:skc R=2:=by unfold skc;rw[if_pos h]
  rw[if_pos (by simp;omega),e,if_pos (by decide)]
 ·have e:skc R=sk (-2) R:=by unfold skc;rw[if_neg h]
  have hc:=qkR (F:=F) (R:=R) (by omega) F 0 (-2) (by omega) (by omega) (by omega)
  rw[qx8] at hc
  rw[if_neg (by simp;omega),e]
  refine hc.trans ?_
  by_cases h2:sk (-2) R=0
  ·rw[if_neg (by simp[h2]),if_neg (by simp[h2])]
   unfold qbL
   have hok:=qqD.1 (e.trans h2)
   exact qkS (by omega) hok.2.1 hok.1 F 0 (by omega) (by omega)
  ·rw[if_pos h2,if_pos h2]
def rm (R:List (Int×Int))(rest:qAE):qAE×Int:=if skc R≠0 then ([],skc R) else if gkc rest≠0 then ([],gkc rest) else mrg (flat R) rest
theorem qxM {R:List (Int×Int)}{rest:qAE}(h:skc R≠0):rm R rest=([],skc R):=by unfold rm;rw[if_pos h]
theorem qxN {R:List (Int×Int)}{rest:qAE}(h:skc R=0)(h2:gkc rest≠0):rm R rest=([],gkc rest):=by unfold rm;rw[if_neg (by simp[h]),if_pos h2]
theorem qxD {R:List (Int×Int)}{rest:qAE}(h:skc R=0)(h2:gkc rest=0):rm R rest=mrg (flat R) rest:=by unfold rm;rw[if_neg (by simp[h]),if_neg (by simp[h2])]
theorem qxb {R:List (Int×Int)}(h:skc R=0):spd R=(flat R,0):=by unfold spd;rw[if_neg (by simp[h])]
theorem qv0 {R:List (Int×Int)}(h:skc R≠0):spd R=([],skc R):=by unfold spd;rw[if_pos h]
theorem qtN {F:Nat}(hF:20000≤F){R:List (Int×Int)}{rest:qAE}:qfd F R rest=some (rm R rest):=by
 unfold qfd
 rw[qsL hF,qgu hF]
 simp only[qxP]
 by_cases h:skc R=0
 ·rw[qxb h,if_pos (by simp)]
  unfold qa2
  by_cases h2:gkc rest=0
  ·rw[qxD h h2,if_neg (by simp[h2])]
   obtain ⟨k1,k2,k3⟩:=qqD.1 h
   have k4:=zn.1 h2
   have k5:=qi8 k2
   exact qsr hF (qqC k3) (jO k4.2).1 (by show (flat R).length+rest.length≤_;omega)
  ·rw[qxN h h2,if_pos (by simpa using h2)]
 ·rw[qv0 h,qxM h,if_neg (by simpa using h)]
  unfold qa2
  rw[if_pos (by simpa using h)]
theorem qsC {R:List (Int×Int)}{rest w:qAE}(h1:skc R=0)(h2:gkc rest=0)(h3:cmn (flat R) rest=false)(h4:(flat R++rest).Perm w)(h5:w.Pairwise (·≤·))(h6:w.length≤300):rm R rest=(w,0):=by
 have hl:=h4.length_eq
 rw[qxQ] at hl
 rw[qxD h1 h2]
 unfold mrg
 rw[h3,if_neg (by simp),if_neg (by omega),qhn h4 h5]
theorem qvF {l r:qAE}:(mrg l r).1.length≤300:=by
 unfold mrg
 split
 ·simp
 ·split
  ·simp
  ·simp;omega
theorem qw9 {R:List (Int×Int)}{rest:qAE}:(rm R rest).1.length≤300:=by
 unfold rm
 split
 ·simp
 ·split
  ·simp
  ·exact qvF
theorem qkh {R:List (Int×Int)}(p:Int×Int→Bool):(R.filter p).length≤R.length:=qzP _ _
theorem qsA {A B:List (Int×Int)}(h:A.Perm B):(flat A).Perm (flat B):=h.flatMap_right _
theorem qil (least:Int):∀ (R:List (Int×Int)),(spO least R++spS least R).Perm R
 | []=>qyB _
 | r::R=>by
  by_cases h:least≤r.2
  ·rw[quE h,quF h];exact (qil least R).cons r
  ·rw[quD h,quG h];exact qy8.trans ((qil least R).cons r)
theorem qpC (least:Int)(l:qAE):(flat (spO least (rs l))++flat (spS least (rs l))).Perm l:=by
 rw[← qki]
 have:=qsA (qil least (rs l))
 rwa [qeL] at this
theorem qn2 {q:Int}{least:Int}{l:qAE}(hl:l.length≤300)(h:Ris q l):(spO least (rs l)).length≤300∧(flat (spS least (rs l))).length≤300:=by
 have h1:=qgt (qio (jO h).1 (jO h).2)
 rw[qeL] at h1
 have h2:=(qpC least l).length_eq
 rw[qxQ] at h2
 have h3:(spO least (rs l)).length≤(rs l).length:=qkh _
 omega
theorem qms {l:qAE}(hl:l.length≤300)(h:Ris (-1) l):Sep (-1) (rs l)∧∀ r∈rs l,RunOk r:=by
 have hs:=qio (jO h).1 (jO h).2
 refine ⟨hs,fun r hr=>?_⟩
 have hm:=qqB hs r hr
 have h2:=qhy hr
 rw[qeL] at hm h2
 have h1:=hm.1
 have a1:=qim h _ (hm.2.2.2 r.1 (by omega) (by omega))
 have a2:=qim h _ (hm.2.2.2 (r.1+r.2-1) (by omega) (by omega))
 unfold Nd at a1 a2
 exact ⟨by omega,by omega,by omega⟩
theorem qv4 {l:qAE}(hl:l.length≤300)(h:Ris (-1) l)(p:Int×Int→Bool):skc ((rs l).filter p)=0:=by
 obtain ⟨h1,h2⟩:=qms hl h
 have h3:=qgt h1
 rw[qeL] at h3
 exact qqD.2 ⟨qy7 (qkh p) (by omega),fun r hr=>h2 r (qyR.1 hr).1,qds p h1⟩
theorem qtp {R:List (Int×Int)}(p:Int×Int→Bool):∀ z∈flat (R.filter p),z∈flat R:=by
 intro z hz
 obtain ⟨r,h1,h2⟩:=qkj.1 hz
 exact qkj.2 ⟨r,(qyR.1 h1).1,h2⟩
theorem qj1 {l:qAE}(h:Ris (-1) l)(p:Int×Int→Bool):Ris (-1) (flat ((rs l).filter p)):=by
 have hs:=qio (jO h).1 (jO h).2
 have hsub:∀ z∈flat ((rs l).filter p),z∈l:=fun z hz=>by have:=qtp p z hz;rwa [qeL] at this
 exact qnS (qqC (qds p hs)) (fun z hz=>(jO h).2 z (hsub z hz)) (fun z hz=>qim h z (hsub z hz))
theorem qtk (f:Int→Bool):∀ (l pre:qAE) (c:Bool),cp (pre++l) (tb c pre.length (l.map f)) c=(if c then pre else [])++l.filter f
 | [],pre,c=>by
  show cp (pre++[]) [] c=_
  unfold cp
  simp
 | x::l,pre,c=>by
  rw[qyw,qy1]
  by_cases h:f x=c
  ·have ih:=qtk f l (pre++[x]) c
   rw[qxS,qxQ,show ((pre.length+[x].length:Nat):Int)=(pre.length:Int)+1 from by simp] at ih
   rw[h,qhP]
   refine ih.trans ?_
   cases c
   ·simp
   ·simp
  ·have ih:=qtk f l [x] (f x)
   rw[qhQ h]
   unfold cp
   have hc:(!c)=f x:=by cases c <;> cases hx:f x <;> simp_all
   rw[hc,show ((1:Int))=(([x]:qAE).length:Int) from rfl,qxU,List.take_left,qzg]
   have ih':cp (x::l) (tb (f x) (([x]:qAE).length:Int) (l.map f)) (f x)=(if f x then [x] else [])++l.filter f:=ih
   rw[ih']
   cases f x <;> simp
theorem qwS (l m:qAE):cp l (tbs l m) true=l.filter (hasB m):=by
 have:=qtk (hasB m) l [] true
 simpa[tbs] using this
theorem qhe:∀ (bs:List Bool) (f c:Bool) (m:Int),0≤m→(f=true∨1≤m)→okB f (tb c m bs)=true
 | [],_,_,_,_,_=>rfl
 | b::bs,f,c,m,h,hf=>by
  by_cases hb:b=c
  ·subst hb
   rw[qhP]
   exact qhe bs f b (m+1) (by omega) (.inr (by omega))
  ·rw[qhQ hb,qgx,qhe bs false b 1 (by omega) (.inr (by omega))]
   rcases hf with hf | hf
   ·simp[h,hf]
   ·simp[h,hf]
theorem qf0:∀ (bs:List Bool) (c:Bool) (m:Int),0≤m→bsum (tb c m bs)≤m+bs.length
 | [],_,_,h=>by show (0:Int)≤_;simp;omega
 | b::bs,c,m,h=>by
  by_cases hb:b=c
  ·subst hb
   rw[qhP]
   have:=qf0 bs b (m+1) (by omega)
   rw[qxY];omega
  ·rw[qhQ hb]
   have:=qf0 bs b 1 (by omega)
   show m+bsum _≤_
   rw[qxY];omega
theorem qhR (l m:qAE):(tbs l m).length≤l.length:=by
 have:=qqP true 0 (l.map (hasB m))
 rwa [qyG] at this
theorem qvp {l m:qAE}(h:gkc l=0):cpE l (tbs l m)=0:=by
 refine qqa.2 ⟨zn.1 h,?_,qhe _ _ _ _ (by omega) (.inl rfl),?_⟩
 ·have:=qhR l m;omega
 ·have:=qf0 (l.map (hasB m)) true 0 (by omega)
  rw[qyG] at this
  unfold tbs;omega
theorem qrb {l m:qAE}(h:gkc l=0):cpy l (tbs l m)=(l.filter (hasB m),0):=by
 rw[qqb (qvp h),qwS]
theorem qv3 {l m:qAE}(h:gkc l=0)(hs:m.Sublist l):gkc m=0:=by
 obtain ⟨h1,h2⟩:=zn.1 h
 have:=hs.length_le
 exact zn.2 ⟨by omega,qnS ((jO h2).1.sublist hs) (fun z hz=>(jO h2).2 z (hs.subset hz)) (fun z hz=>qim h2 z (hs.subset hz))⟩
theorem qhb {l:qAE}(h:gkc l=0):l.Pairwise (·<·):=(jO (zn.1 h).2).1
theorem qo2 {l:qAE}{x:Int}:hasB l x=true↔x∈l:=by unfold hasB;simp
theorem qpe {a b:qAE}(ha:gkc a=0)(hb:gkc b=0):a.filter (hasB b)=b.filter (hasB a):=by
 refine qt7 ((qhb ha).sublist (qzD ..)) ((qhb hb).sublist (qzD ..)) fun z=>?_
 rw[qyR,qyR,qo2,qo2]
 exact And.comm
theorem ql1 (p:Int→Bool)(l:qAE):(l.filter p++l.filter fun x=>!p x).Perm l:=by
 induction l with
 | nil=>exact qyB _
 | cons x l ih =>
  rw[qy1,qy1]
  cases p x
  ·simp only[qxZ,if_false,qzO,if_true]
   exact qy8.trans (ih.cons x)
  ·simp only[if_true,qyE,qxZ,if_false]
   exact ih.cons x
structure Rep (l:qAE) (f:Bool) (S:qAE):Prop where
 bit:Bit l
 len:l.length≤8192
 ok:f=false→l=S
 full:f=true→8192<S.length
def Wr (m:Option (Int×qAE×Bool))(S:qAE):Prop:=∃ l f,m=some ((l.length:Int),pk l,f)∧Rep l f S
theorem qvT:Rep [] false []:=⟨by intro x hx;simp at hx,by simp,fun _=>rfl,by simp⟩
theorem qui {l S:qAE}{f:Bool}(h:Rep l f S){k:qAE}(hk:8192<(S++k).length):Rep l true (S++k):=⟨h.bit,h.len,by simp,fun _=>hk⟩
theorem qog {F:Nat}(hF:20000≤F){l k S:qAE}{f:Bool}(h:Rep l f S)(hk:Bit k)(hkm:k.length≤8192):Wr (yZ F (l.length:Int) (pk l) f (k.length:Int) (pk k)) (S++k):=by
 have hl:=h.len
 unfold yZ
 cases f with
 | true =>
  have:=h.full rfl
  refine ⟨l,true,by simp[yH],h.bit,h.len,by simp,fun _=>by simp;omega⟩
 | false =>
  obtain rfl:=h.ok rfl
  rw[if_neg (by simp),jN (by omega)]
  unfold yH
  by_cases hb:8192<l.length+k.length
  ·rw[if_neg (by simp;omega)]
   refine ⟨l,true,by simp;omega,h.bit,h.len,by simp,fun _=>by simp;omega⟩
  ·rw[if_pos (by simp;omega),qq4 hF h.bit hk h.len hkm]
   refine ⟨l++k,false,by simp;omega,vX h.bit hk,by simp;omega,fun _=>rfl,by simp⟩
theorem qen {F:Nat}(hF:20000≤F){l S:qAE}{f:Bool}(h:Rep l f S){n:Int}(h0:0≤n)(hn:n≤1099511627776):Wr (zd F (l.length:Int) (pk l) f n) (S++ga n.toNat):=by
 obtain ⟨m,rfl⟩:=qx0 h0
 unfold zd
 rw[kn (by omega),qjw hF (by omega)]
 simp only[qxP,qxU]
 obtain ⟨l',f',e,h'⟩:=qog hF h (qgL m) (by have:=qd4 (n:=m) (by omega);omega)
 rw[e]
 exact ⟨l',f',rfl,h'⟩
theorem qjn {m:Option (Int×qAE×Bool)}{S T:qAE}(h:Wr m S)(e:S=T):Wr m T:=e▸h
end Go.Proofs.YtlioijpkhffbnaaGreat
