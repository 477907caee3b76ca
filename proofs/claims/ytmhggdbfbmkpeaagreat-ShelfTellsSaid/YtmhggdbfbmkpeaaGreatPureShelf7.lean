/- Plain facts of what the functions of this seat compute. -/
import Derived.Test.YtmhggdbfbmkpeaaGreatModels
import Derived.KernelRfl
import Derived.Lib.SlicesCompact
open BitVec renaming ofNat→qyc, ofInt→qye, toNat_ofNat→qyy, allOnes→qzg
open Bool renaming false_eq_true→qxP, and_eq_true→qyi, not_true→qys, or_eq_true→qyC, not_false→qzA
open Int renaming toNat_natCast→qxH, eq_ofNat_of_zero_le→qxK, tdiv_eq_ediv_of_nonneg→qyG, natCast_mul→qy1, tmod_eq_emod_of_nonneg→qzk, natCast_nonneg→qz5
open List renaming getElem?_eq_getElem→qxE, length_append→qxF, append_assoc→qxG, drop_eq_getElem_cons→qxI, replicate→qxJ, mem_append→qxL, mem_of_getElem?→qxM, drop_eq_nil_of_le→qxN, mem_cons→qxO, getElem?_eq_some_iff→qxQ, drop_zero→qxT, nil_append→qxV, length_cons→qxX, mem_cons_of_mem→qxZ, length_take→qx1, getElem?_eq_none→qx2, mem_cons_self→qx5, getElem_mem→qx8, length_drop→qx9, length_replicate→qyh, nodup_append→qyl, map_cons→qyp, range→qyr, getElem?_drop→qyt, take_append_drop→qyu, append_nil→qyv, length_map→qyB, getD→qyH, pairwise_cons→qyJ, mem_filter→qyK, getElem?_map→qyM, getElem?_append_left→qyP, pairwise_iff_getElem→qyQ, cons_append→qyU, filter_cons→qyV, ext_getElem?→qyX, perm_middle→qyZ, map_append→qy2, mem_of_mem_take→qy8, take_add_one→qzb, getElem?_cons_succ→qzd, getElem?_of_mem→qzm, take_length→qzq, getElem?_range→qzr, filter_sublist→qzs, take_left'→qzw, length_filter_le→qzB, range_succ→qzF, drop_left→qzJ, replicate_succ'→qzW, drop_drop→qAf
open List.Perm renaming refl→qyo
open Nat renaming le_refl→qxY, pow_le_pow_right→qx4, add_sub_cancel→qx6, mod_eq_of_lt→qya, mul_le_mul_right→qyf, zero_add→qyj, succ_mul→qyx, add_assoc→qyF, pow_pos→qyN, add_zero→qyO, pow_succ→qyS, div_le_self→qyT, le_trans→qy3, add_comm→qy5, min_eq_left→qy9, mul_comm→qzi, add_mul→qzn, pow_add→qzp, lt_of_lt_of_le→qzu, le_mul_of_pos_right→qzK, pow_succ'→qzP, div_mul_le_self→qz0, div_eq_of_lt→qz9
open Option renaming bind_some→qxD, map_some→qyg
open Option.some renaming injEq→qxR, inj→qzx
open Prod.mk renaming injEq→qzc
namespace Go.Proofs.YtmhggdbfbmkpeaaGreat
open Go SX
variable {F:Nat} {rec68:(List (Int×Int)×qAq×Int)→Option (List (Int×Int)×qAq)} {l:qAq} {least:Int} {o:List (Int×Int)} {rest:qAq} {i:Int}
def byt (l:qAq)(k:Nat):Int :=
 l.getD (8*k) 0*128+l.getD (8*k+1) 0*64+l.getD (8*k+2) 0*32+l.getD (8*k+3) 0*16+l.getD (8*k+4) 0*8+l.getD (8*k+5) 0*4+l.getD (8*k+6) 0*2+l.getD (8*k+7) 0
def pk (l:qAq):qAq:=(qyr ((l.length+7)/8)).map (byt l)
def Bit (l:qAq):Prop:=∀ x∈l,x=0∨x=1
theorem Bit.getD {l:qAq}(h:Bit l)(i:Nat):l.getD i 0=0∨l.getD i 0=1:=by
 by_cases hi:i<l.length
 ·have:=h l[i] (qx8 hi)
  simpa[qyH,hi] using this
 ·left
  simp[qyH,qx2 (Nat.le_of_not_lt hi)]
theorem qaM {l:qAq}{i:Nat}(h:l.length≤i):l.getD i 0=0:=by simp[qyH,qx2 h]
theorem qmc (l:qAq)(x:Int)(i:Nat):(l++[x]).getD i 0=if i=l.length then x else l.getD i 0:=by
 by_cases h:i=l.length
 ·subst h;simp[qyH]
 ·rw[if_neg h]
  by_cases h2:i<l.length
  ·simp[qyH,qyP h2]
  ·rw[qaM (by simp;omega),qaM (by omega)]
theorem qhy {l:qAq}(h:Bit l)(k:Nat):0≤byt l k∧byt l k<256:=by
 have h0:=h.getD (8*k);have h1:=h.getD (8*k+1);have h2:=h.getD (8*k+2);have h3:=h.getD (8*k+3)
 have h4:=h.getD (8*k+4);have h5:=h.getD (8*k+5);have h6:=h.getD (8*k+6);have h7:=h.getD (8*k+7)
 unfold byt
 omega
theorem qkl {l:qAq}{x:Int}{k:Nat}(h:k≠l.length/8):byt (l++[x]) k=byt l k:=by
 unfold byt
 simp only[qmc]
 rw[if_neg (by omega),if_neg (by omega),if_neg (by omega),if_neg (by omega),if_neg (by omega),if_neg (by omega),if_neg (by omega),if_neg (by omega)]
theorem qoH {l:qAq}{x:Int}:byt (l++[x]) (l.length/8)=byt l (l.length/8)+x*2^(7-l.length%8):=by
 obtain ⟨k,hk⟩:∃ k,k=l.length/8:=⟨_,rfl⟩
 obtain ⟨r,hr⟩:∃ r,r=l.length%8:=⟨_,rfl⟩
 have hl:l.length=8*k+r:=by omega
 have hr8:r<8:=by omega
 rw[← hk,← hr]
 unfold byt
 simp only[qmc,hl]
 have hg:∀ j,r≤j→l.getD (8*k+j) 0=0:=fun j hj=>qaM (by omega)
 have g0:=hg 0;have g1:=hg 1;have g2:=hg 2;have g3:=hg 3;have g4:=hg 4;have g5:=hg 5;have g6:=hg 6;have g7:=hg 7
 rw[qyO] at g0
 rcases (by omega:r=0∨r=1∨r=2∨r=3∨r=4∨r=5∨r=6∨r=7) with rfl | rfl | rfl | rfl | rfl | rfl | rfl | rfl
 ·rw[show (2:Int)^(7-0)=128 from by decide]
  rw[if_pos (by omega),if_neg (by omega),if_neg (by omega),if_neg (by omega),if_neg (by omega),if_neg (by omega),if_neg (by omega),if_neg (by omega)]
  have e0:=g0 (by omega)
  have e1:=g1 (by omega)
  have e2:=g2 (by omega)
  have e3:=g3 (by omega)
  have e4:=g4 (by omega)
  have e5:=g5 (by omega)
  have e6:=g6 (by omega)
  have e7:=g7 (by omega)
  omega
 ·rw[show (2:Int)^(7-1)=64 from by decide]
  rw[if_neg (by omega),if_pos (by omega),if_neg (by omega),if_neg (by omega),if_neg (by omega),if_neg (by omega),if_neg (by omega),if_neg (by omega)]
  have e1:=g1 (by omega)
  have e2:=g2 (by omega)
  have e3:=g3 (by omega)
  have e4:=g4 (by omega)
  have e5:=g5 (by omega)
  have e6:=g6 (by omega)
  have e7:=g7 (by omega)
  omega
 ·rw[show (2:Int)^(7-2)=32 from by decide]
  rw[if_neg (by omega),if_neg (by omega),if_pos (by omega),if_neg (by omega),if_neg (by omega),if_neg (by omega),if_neg (by omega),if_neg (by omega)]
  have e2:=g2 (by omega)
  have e3:=g3 (by omega)
  have e4:=g4 (by omega)
  have e5:=g5 (by omega)
  have e6:=g6 (by omega)
  have e7:=g7 (by omega)
  omega
 ·rw[show (2:Int)^(7-3)=16 from by decide]
  rw[if_neg (by omega),if_neg (by omega),if_neg (by omega),if_pos (by omega),if_neg (by omega),if_neg (by omega),if_neg (by omega),if_neg (by omega)]
  have e3:=g3 (by omega)
  have e4:=g4 (by omega)
  have e5:=g5 (by omega)
  have e6:=g6 (by omega)
  have e7:=g7 (by omega)
  omega
 ·rw[show (2:Int)^(7-4)=8 from by decide]
  rw[if_neg (by omega),if_neg (by omega),if_neg (by omega),if_neg (by omega),if_pos (by omega),if_neg (by omega),if_neg (by omega),if_neg (by omega)]
  have e4:=g4 (by omega)
  have e5:=g5 (by omega)
  have e6:=g6 (by omega)
  have e7:=g7 (by omega)
  omega
 ·rw[show (2:Int)^(7-5)=4 from by decide]
  rw[if_neg (by omega),if_neg (by omega),if_neg (by omega),if_neg (by omega),if_neg (by omega),if_pos (by omega),if_neg (by omega),if_neg (by omega)]
  have e5:=g5 (by omega)
  have e6:=g6 (by omega)
  have e7:=g7 (by omega)
  omega
 ·rw[show (2:Int)^(7-6)=2 from by decide]
  rw[if_neg (by omega),if_neg (by omega),if_neg (by omega),if_neg (by omega),if_neg (by omega),if_neg (by omega),if_pos (by omega),if_neg (by omega)]
  have e6:=g6 (by omega)
  have e7:=g7 (by omega)
  omega
 ·rw[show (2:Int)^(7-7)=1 from by decide]
  rw[if_neg (by omega),if_neg (by omega),if_neg (by omega),if_neg (by omega),if_neg (by omega),if_neg (by omega),if_neg (by omega),if_pos (by omega)]
  have e7:=g7 (by omega)
  omega
theorem irem8 (n:Nat):irem (n:Int) 8=((n%8:Nat):Int):=by
 unfold irem;rw[qzk (by omega)];omega
theorem iquo8 {n:Nat}(h:n≤9223372036854775807):iquo .i64 (n:Int) 8=((n/8:Nat):Int):=by
 unfold iquo;rw[qyG (by omega),qX (by omega) (by omega)];omega
theorem qqX {l:qAq}:byt l (l.length/8)%2^(8-l.length%8)=0:=by
 obtain ⟨k,hk⟩:∃ k,k=l.length/8:=⟨_,rfl⟩
 obtain ⟨r,hr⟩:∃ r,r=l.length%8:=⟨_,rfl⟩
 have hl:l.length=8*k+r:=by omega
 have hr8:r<8:=by omega
 rw[← hk,← hr]
 unfold byt
 have hg:∀ j,r≤j→l.getD (8*k+j) 0=0:=fun j hj=>qaM (by omega)
 have g0:=hg 0;have g1:=hg 1;have g2:=hg 2;have g3:=hg 3;have g4:=hg 4;have g5:=hg 5;have g6:=hg 6;have g7:=hg 7
 rw[qyO] at g0
 rcases (by omega:r=0∨r=1∨r=2∨r=3∨r=4∨r=5∨r=6∨r=7) with rfl | rfl | rfl | rfl | rfl | rfl | rfl | rfl
 ·have e0:=g0 (by omega);have e1:=g1 (by omega);have e2:=g2 (by omega);have e3:=g3 (by omega);have e4:=g4 (by omega);have e5:=g5 (by omega);have e6:=g6 (by omega);have e7:=g7 (by omega)
  rw[show (2:Int)^(8-0)=256 from by decide];omega
 ·have e1:=g1 (by omega);have e2:=g2 (by omega);have e3:=g3 (by omega);have e4:=g4 (by omega);have e5:=g5 (by omega);have e6:=g6 (by omega);have e7:=g7 (by omega)
  rw[show (2:Int)^(8-1)=128 from by decide];omega
 ·have e2:=g2 (by omega);have e3:=g3 (by omega);have e4:=g4 (by omega);have e5:=g5 (by omega);have e6:=g6 (by omega);have e7:=g7 (by omega)
  rw[show (2:Int)^(8-2)=64 from by decide];omega
 ·have e3:=g3 (by omega);have e4:=g4 (by omega);have e5:=g5 (by omega);have e6:=g6 (by omega);have e7:=g7 (by omega)
  rw[show (2:Int)^(8-3)=32 from by decide];omega
 ·have e4:=g4 (by omega);have e5:=g5 (by omega);have e6:=g6 (by omega);have e7:=g7 (by omega)
  rw[show (2:Int)^(8-4)=16 from by decide];omega
 ·have e5:=g5 (by omega);have e6:=g6 (by omega);have e7:=g7 (by omega)
  rw[show (2:Int)^(8-5)=8 from by decide];omega
 ·have e6:=g6 (by omega);have e7:=g7 (by omega)
  rw[show (2:Int)^(8-6)=4 from by decide];omega
 ·have e7:=g7 (by omega)
  rw[show (2:Int)^(8-7)=2 from by decide];omega
theorem qvh {l:qAq}(h:l.length%8=0):byt l (l.length/8)=0:=by
 unfold byt
 rw[qaM (by omega),qaM (by omega),qaM (by omega),qaM (by omega),qaM (by omega),qaM (by omega),qaM (by omega),qaM (by omega)]
 rfl
theorem qoZ (k:IntKind)(a b:Int):ior k a b=ior k b a:=by unfold ior;rw[BitVec.or_comm]
def room (l:qAq):qAq:=(qyr (l.length/8+1)).map (byt l)
theorem qrK {F:Nat}{l:qAq}(hl:Bit l){x:Int}(hx:x=0∨x=1)(hn:l.length≤1000000):yu F (l.length:Int) x (room l)=some (((l.length+1:Nat):Int),pk (l++[x])):=by
 unfold yu
 rw[iquo8 (by omega),irem8]
 have hg:(room l)[l.length/8]?=some (byt l (l.length/8)):=by simp[room]
 rw[qt,hg]
 simp only[qxD]
 have hc:decide ((0:Int)≤((l.length%8:Nat):Int))=true:=decide_eq_true (by omega)
 rw[hc]
 simp only[chk,if_true,lett,qxH]
 have hb:=qhy hl (l.length/8)
 have hr8:l.length%8<8:=Nat.mod_lt _ (by decide)
 have e1:ishl .u64 x 7=x*128:=by
  have:=qkx (a:=x) (m:=7) (by decide)
  rw[show ((7:Nat):Int)=7 from rfl] at this
  rw[this]
  rcases hx with rfl | rfl <;> decide
 have e2:iconv .u8 (x*128)=x*128:=qr6 (by omega) (by omega)
 have e3:ishr .u8 (x*128) ((l.length%8:Nat):Int)=x*2^(7-l.length%8):=by
  rw[qhB (by simp only[IntKind.bits];omega)]
  have key:∀ r:Fin 8,((0:Int)*128/2^r.val=0*2^(7-r.val))∧((1:Int)*128/2^r.val=1*2^(7-r.val)):=by decide
  have:=key ⟨l.length%8,hr8⟩
  rcases hx with rfl | rfl
  ·exact this.1
  ·exact this.2
 have key2:∀ r:Fin 8,(1:Int)≤2^(7-r.val)∧(2:Int)^(8-r.val)=2*2^(7-r.val)∧(2:Int)^(7-r.val)≤128∧(256:Int)%2^(8-r.val)=0∧(2:Int)^(8-r.val)≤256:=by decide
 have hk2:=key2 ⟨l.length%8,hr8⟩
 simp only at hk2
 have hat:=qoH (l:=l) (x:=x)
 have hb2:Bit (l++[x]):=by
  intro y hy
  rcases qxL.1 hy with h | h
  ·exact hl y h
  ·simp at h;subst h;exact hx
 have hbb:=qhy hb2 (l.length/8)
 have e4:ior .u8 (byt l (l.length/8)) (x*2^(7-l.length%8))=byt (l++[x]) (l.length/8):=by
  rw[qoZ,qre (m:=8-l.length%8) ?_ ?_ hb.1 qqX rfl ?_]
  ·rw[hat];omega
  ·rcases hx with rfl | rfl <;> omega
  ·rcases hx with rfl | rfl <;> omega
  ·simp only[IntKind.bits]
   rw[show (2:Int)^8=256 from by decide]
   omega
 rw[e1,e2,e3,e4,qw (by omega) (by omega)]
 congr 2
 unfold room pk
 have hlen:((l++[x]).length+7)/8=l.length/8+1:=by simp;omega
 rw[hlen]
 apply qyX
 intro k
 rw[List.getElem?_set]
 by_cases hk:l.length/8=k
 ·subst hk;simp
 ·rw[if_neg hk]
  simp only[qyM]
  by_cases h3:k<l.length/8+1
  ·rw[qzr h3]
   simp only[qyg]
   rw[qkl (fun e=>hk e.symm)]
  ·rw[qx2 (by simpa using h3)]
   rfl
theorem qs5 {F:Nat}{l:qAq}(hl:Bit l){x:Int}(hx:x=0∨x=1)(hn:l.length≤1000000):jo F (l.length:Int) (pk l) x=some (((l.length+1:Nat):Int),pk (l++[x])):=by
 unfold jo
 rw[irem8]
 by_cases h:l.length%8=0
 ·have h1:((((l.length%8:Nat):Int):Int) == 0)=true:=by simp[h]
  simp only[h1,if_true]
  rw[qT (by simp[pk];omega)]
  simp only[qxD]
  have:pk l++[0]=room l:=by
   unfold pk room
   rw[show (l.length+7)/8=l.length/8 from by omega,qzF,qy2]
   simp[qvh h]
  rw[this]
  exact qrK hl hx hn
 ·have h1:((((l.length%8:Nat):Int):Int) == 0)=false:=by simp;omega
  simp only[h1,qxP,if_false]
  have:pk l=room l:=by
   unfold pk room
   rw[show (l.length+7)/8=l.length/8+1 from by omega]
  rw[this]
  exact qrK hl hx hn
def bitAt (b:qAq)(i:Nat):Int:=b.getD (i/8) 0/2^(7-i%8)%2
def bl (b:qAq)(n:Nat):qAq:=(qyr n).map (bitAt b)
theorem qjd (b:qAq)(i:Nat):bitAt b i=0∨bitAt b i=1:=by unfold bitAt;omega
theorem qpY (b:qAq)(n:Nat):Bit (bl b n):=by
 intro x hx
 obtain ⟨i,_,rfl⟩:=List.mem_map.1 hx
 exact qjd b i
theorem qab (b:qAq)(n:Nat):(bl b n).length=n:=by simp[bl]
def U8s (l:qAq):Prop:=∀ n∈l,0≤n∧n<256
theorem qs3 {F:Nat}{n:Int}{b:qAq}(hb:U8s b){i:Nat}(hi:i/8<b.length)(hm:i≤1000000):qbb F n b (i:Int)=some (bitAt b i):=by
 unfold qbb
 rw[iquo8 (by omega),irem8,qt]
 have hg:b[i/8]?=some b[i/8]:=by simp[hi]
 rw[hg]
 simp only[qxD]
 have e1:isub .i64 7 ((i%8:Nat):Int)=((7-i%8:Nat):Int):=by rw[qy (by omega) (by omega)];omega
 rw[e1]
 have hc:decide ((0:Int)≤((7-i%8:Nat):Int))=true:=decide_eq_true (by omega)
 rw[hc]
 simp only[chk,if_true,lett]
 have hx:=hb b[i/8] (qx8 hi)
 rw[qhB (by simp only[IntKind.bits];omega)]
 have hp:(1:Int)≤2^(7-i%8):=by
  have key:∀ r:Fin 8,(1:Int)≤2^(7-r.val):=by decide
  exact key ⟨i%8,Nat.mod_lt _ (by decide)⟩
 have h1:0≤b[i/8]/2^(7-i%8):=Int.ediv_nonneg hx.1 (by omega)
 have h2:b[i/8]/2^(7-i%8)≤b[i/8]:=Int.ediv_le_self _ hx.1
 have e2:iconv .u64 (b[i/8]/2^(7-i%8))=b[i/8]/2^(7-i%8):=zG h1 (by omega)
 rw[e2]
 have e3:=qhA (k:=.u64) (a:=b[i/8]/2^(7-i%8)) (m:=1) h1 (by simp only[IntKind.bits];rw[show (2:Int)^64=18446744073709551616 from by decide];omega) (by decide) rfl
 rw[show ((2^1-1:Nat):Int)=1 from rfl,show (2:Int)^1=2 from rfl] at e3
 rw[e3]
 unfold bitAt
 simp[qyH,hg]
theorem qve (b:qAq)(n:Nat):bl b (n+1)=bl b n++[bitAt b n]:=by simp[bl,qzF]
theorem qpa {F:Nat}{n:Int}{b:qAq}(hb:U8s b){yy:(Int×qAq)→Int→Option ((Int×qAq) ⊕ Empty)}(hy:∀ (l:qAq) x,Bit l→(x=0∨x=1)→l.length≤100000→yy ((l.length:Int),pk l) x=some (.inl (((l.length+1:Nat):Int),pk (l++[x])))){to:Nat}(ht:to≤8*b.length)(hm:to≤10000) :
  ∀ (k i:Nat) (l:qAq),to<k+i→i≤to→Bit l→l.length+(to-i)≤100000 →
   zZ F yy (to:Int) n b k ((i:Int),((l.length:Int),pk l))=some (.inl (((l.length+(to-i):Nat):Int),pk (l++(bl b to).drop i)))
 | 0,i,l,h,hi,_,_=>by omega
 | k+1,i,l,h,hi,hl,hc=>by
  have hstep:zZ F yy (to:Int) n b (k+1) ((i:Int),((l.length:Int),pk l))=qaE F yy (to:Int) n b (zZ F yy (to:Int) n b k) (i:Int) ((l.length:Int),pk l):=rfl
  rw[hstep]
  unfold qaE
  by_cases hlt:i<to
  ·have h1:(i:Int)<(to:Int):=by omega
   simp only[h1,decide_true,if_true]
   rw[qs3 hb (by omega) (by omega)]
   simp only[qxD]
   have hx:=qjd b i
   rw[hy l _ hl hx (by omega)]
   simp only[qxD,Sum.elim_inl]
   rw[qw (by omega) (by omega),show (i:Int)+1=((i+1:Nat):Int) from by omega]
   have hl2:Bit (l++[bitAt b i]):=by
    intro y hy2
    rcases qxL.1 hy2 with h | h
    ·exact hl y h
    ·simp at h;subst h;exact hx
   have:=qpa (F:=F) (n:=n) hb hy ht hm k (i+1) (l++[bitAt b i]) (by omega) (by omega) hl2 (by simp;omega)
   rw[show (l++[bitAt b i]).length=l.length+1 from by simp] at this
   rw[this]
   have hd:(bl b to).drop i=bitAt b i::(bl b to).drop (i+1):=by
    rw[qxI (by rw[qab];exact hlt)]
    congr 1
    simp[bl]
   rw[hd,qxG,show l.length+1+(to-(i+1))=l.length+(to-i) from by omega]
   rfl
  ·have h1:¬ (i:Int)<(to:Int):=by omega
   simp only[h1,decide_false,qxP,if_false]
   rw[qxN (by rw[qab];omega),qyv,show l.length+(to-i)=l.length from by omega]
structure Ok (n:Nat) (b:qAq):Prop where
 max:n≤8192
 len:b.length=(n+7)/8
 low:n%8≠0→b.getD (n/8) 0%2^(8-n%8)=0
theorem qvd {b:qAq}{n i:Nat}:(bl b n).getD i 0=if i<n then bitAt b i else 0:=by
 by_cases h:i<n
 ·rw[if_pos h];simp[bl,qyH,h]
 ·rw[if_neg h];exact qaM (by rw[qab];omega)
theorem bits8 {x:Int}(h0:0≤x)(h1:x<256):x/128%2*128+x/64%2*64+x/32%2*32+x/16%2*16+x/8%2*8+x/4%2*4+x/2%2*2+x/1%2=x:=by omega
theorem qni (b:qAq)(k:Nat):bitAt b (8*k)=b.getD k 0/128%2∧bitAt b (8*k+1)=b.getD k 0/64%2∧bitAt b (8*k+2)=b.getD k 0/32%2∧bitAt b (8*k+3)=b.getD k 0/16%2 ∧
  bitAt b (8*k+4)=b.getD k 0/8%2∧bitAt b (8*k+5)=b.getD k 0/4%2∧bitAt b (8*k+6)=b.getD k 0/2%2∧bitAt b (8*k+7)=b.getD k 0/1%2:=by
 unfold bitAt
 rw[show 8*k/8=k from by omega,show (8*k+1)/8=k from by omega,show (8*k+2)/8=k from by omega,show (8*k+3)/8=k from by omega,show (8*k+4)/8=k from by omega,show (8*k+5)/8=k from by omega,show (8*k+6)/8=k from by omega,show (8*k+7)/8=k from by omega,
  show 8*k%8=0 from by omega,show (8*k+1)%8=1 from by omega,show (8*k+2)%8=2 from by omega,show (8*k+3)%8=3 from by omega,show (8*k+4)%8=4 from by omega,show (8*k+5)%8=5 from by omega,show (8*k+6)%8=6 from by omega,show (8*k+7)%8=7 from by omega]
 exact ⟨rfl,rfl,rfl,rfl,rfl,rfl,rfl,rfl⟩
theorem qwG {n:Nat}{b:qAq}(hb:U8s b)(h:Ok n b){k:Nat}(hk:k<(n+7)/8):byt (bl b n) k=b.getD k 0:=by
 have hx:0≤b.getD k 0∧b.getD k 0<256:=by
  have hlt:k<b.length:=by rw[h.len];exact hk
  have:=hb b[k] (qx8 hlt)
  simpa[qyH,hlt] using this
 obtain ⟨c0,c1,c2,c3,c4,c5,c6,c7⟩:=qni b k
 unfold byt
 simp only[qvd]
 rw[c0,c1,c2,c3,c4,c5,c6,c7]
 by_cases hf:8*k+8≤n
 ·rw[if_pos (by omega),if_pos (by omega),if_pos (by omega),if_pos (by omega),if_pos (by omega),if_pos (by omega),if_pos (by omega),if_pos (by omega)]
  exact bits8 hx.1 hx.2
 ·have hkn:n/8=k:=by omega
  obtain ⟨r,hr⟩:∃ r,r=n%8:=⟨_,rfl⟩
  have hn:n=8*k+r:=by omega
  have hlow:=h.low (by omega)
  rw[hkn,← hr] at hlow
  generalize b.getD k 0=x at hx hlow
  rcases (by omega:r=1∨r=2∨r=3∨r=4∨r=5∨r=6∨r=7) with rfl | rfl | rfl | rfl | rfl | rfl | rfl
  ·rw[if_pos (by omega),if_neg (by omega),if_neg (by omega),if_neg (by omega),if_neg (by omega),if_neg (by omega),if_neg (by omega),if_neg (by omega)]
   rw[show (2:Int)^(8-1)=128 from by decide] at hlow
   omega
  ·rw[if_pos (by omega),if_pos (by omega),if_neg (by omega),if_neg (by omega),if_neg (by omega),if_neg (by omega),if_neg (by omega),if_neg (by omega)]
   rw[show (2:Int)^(8-2)=64 from by decide] at hlow
   omega
  ·rw[if_pos (by omega),if_pos (by omega),if_pos (by omega),if_neg (by omega),if_neg (by omega),if_neg (by omega),if_neg (by omega),if_neg (by omega)]
   rw[show (2:Int)^(8-3)=32 from by decide] at hlow
   omega
  ·rw[if_pos (by omega),if_pos (by omega),if_pos (by omega),if_pos (by omega),if_neg (by omega),if_neg (by omega),if_neg (by omega),if_neg (by omega)]
   rw[show (2:Int)^(8-4)=16 from by decide] at hlow
   omega
  ·rw[if_pos (by omega),if_pos (by omega),if_pos (by omega),if_pos (by omega),if_pos (by omega),if_neg (by omega),if_neg (by omega),if_neg (by omega)]
   rw[show (2:Int)^(8-5)=8 from by decide] at hlow
   omega
  ·rw[if_pos (by omega),if_pos (by omega),if_pos (by omega),if_pos (by omega),if_pos (by omega),if_pos (by omega),if_neg (by omega),if_neg (by omega)]
   rw[show (2:Int)^(8-6)=4 from by decide] at hlow
   omega
  ·rw[if_pos (by omega),if_pos (by omega),if_pos (by omega),if_pos (by omega),if_pos (by omega),if_pos (by omega),if_pos (by omega),if_neg (by omega)]
   rw[show (2:Int)^(8-7)=2 from by decide] at hlow
   omega
theorem qtY {n:Nat}{b:qAq}(hb:U8s b)(h:Ok n b):pk (bl b n)=b:=by
 unfold pk
 rw[qab]
 apply qyX
 intro k
 by_cases hk:k<(n+7)/8
 ·rw[qyM,qzr hk]
  simp only[qyg]
  rw[qwG hb h hk]
  have hlt:k<b.length:=by rw[h.len];exact hk
  simp[qyH,hlt]
 ·rw[qx2 (by simpa using hk),qx2 (by rw[h.len];omega)]
def chkOf (n:Int)(b:qAq):Int :=
 if n<0∨8192<n then 3 else if (b.length:Int)≠(n+7)/8 then 1 else if n%8≠0∧b.getD (n.toNat/8) 0%2^(8-n.toNat%8)≠0 then 1 else 0
theorem qtb {n:Int}{b:qAq}(h:chkOf n b=0):∃ m:Nat,n=m∧Ok m b:=by
 unfold chkOf at h
 split at h
 ·simp at h
 ·rename_i h1
  split at h
  ·simp at h
  ·rename_i h2
   split at h
   ·simp at h
   ·rename_i h3
    obtain ⟨m,rfl⟩:=qxK (show 0≤n by omega)
    refine ⟨m,rfl,by omega,by omega,fun hm=>?_⟩
    simp only[qxH] at h3
    by_cases hz:b.getD (m/8) 0%2^(8-m%8)=0
    ·exact hz
    ·exact absurd ⟨by omega,hz⟩ h3
theorem qkm {F:Nat}{n:Int}{b:qAq}(hb:U8s b)(h1:-9223372036854775808≤n)(h2:n<9223372036854775808)(hm:b.length≤9223372036854775807):qcu F n b=some (chkOf n b):=by
 unfold qcu chkOf
 by_cases c1:n<0∨8192<n
 ·have:(decide (n<0) || decide (8192<n))=true:=by simpa using c1
  rw[if_pos this,if_pos c1]
 ·have:(decide (n<0) || decide (8192<n))=false:=by simpa using c1
  rw[this,if_neg c1]
  simp only[qxP,if_false]
  obtain ⟨m,rfl⟩:=qxK (show 0≤n by omega)
  have e1:iquo .i64 (iadd .i64 (m:Int) 7) 8=((m:Int)+7)/8:=by
   rw[qw (by omega) (by omega),show (m:Int)+7=((m+7:Nat):Int) from by omega,iquo8 (by omega)]
   omega
  rw[e1,irem8]
  by_cases c2:(b.length:Int)≠((m:Int)+7)/8
  ·have:((b.length:Int) != ((m:Int)+7)/8)=true:=by simpa using c2
   rw[if_pos this,if_pos c2]
  ·have:((b.length:Int) != ((m:Int)+7)/8)=false:=by simpa using c2
   rw[this,if_neg c2]
   simp only[qxP,if_false]
   by_cases c3:m%8=0
   ·have:((((m%8:Nat):Int)) != 0)=false:=by simp[c3]
    have hn:¬ ((m:Int)%8≠0∧b.getD ((m:Int).toNat/8) 0%2^(8-(m:Int).toNat%8)≠0):=fun h=>h.1 (by omega)
    rw[this,if_neg hn]
    simp[qaX]
   ·have:((((m%8:Nat):Int)) != 0)=true:=by simp;omega
    rw[this]
    simp only[if_true]
    have hlen:b.length=m/8+1:=by omega
    have e2:isub .i64 (b.length:Int) 1=((m/8:Nat):Int):=by rw[qy (by omega) (by omega)];omega
    have hg:b[m/8]?=some b[m/8]:=by simp[hlen]
    rw[e2,qt,hg]
    simp only[qxD]
    have hc:decide ((0:Int)≤((m%8:Nat):Int))=true:=decide_eq_true (by omega)
    rw[hc]
    simp only[chk,if_true]
    have hx:=hb b[m/8] (qx8 (by omega))
    have hgd:b.getD (m/8) 0=b[m/8]:=by simp[qyH,hg]
    rw[qxH,hgd]
    generalize b[m/8]=x at hx
    have e3:(ishl .u8 x ((m%8:Nat):Int) != 0)=decide (x%2^(8-m%8)≠0):=by
     have key:ishl .u8 x ((m%8:Nat):Int)=(x*2^(m%8))%256:=by
      unfold ishl
      have h:min (((m%8:Nat):Int).toNat) (IntKind.bits .u8)=m%8:=by simp[IntKind.bits];omega
      rw[h,qpI]
     rw[key]
     rcases (by omega:m%8=1∨m%8=2∨m%8=3∨m%8=4∨m%8=5∨m%8=6∨m%8=7) with h | h | h | h | h | h | h <;> rw[h]
     ·rw[show (2:Int)^1=2 from rfl,show (2:Int)^(8-1)=128 from by decide];by_cases hz:x%128=0 <;> simp[hz] <;> omega
     ·rw[show (2:Int)^2=4 from rfl,show (2:Int)^(8-2)=64 from by decide];by_cases hz:x%64=0 <;> simp[hz] <;> omega
     ·rw[show (2:Int)^3=8 from rfl,show (2:Int)^(8-3)=32 from by decide];by_cases hz:x%32=0 <;> simp[hz] <;> omega
     ·rw[show (2:Int)^4=16 from by decide];try rw[show (2:Int)^(8-4)=16 from by decide]
      by_cases hz:x%16=0 <;> simp[hz] <;> omega
     ·rw[show (2:Int)^5=32 from by decide,show (2:Int)^(8-5)=8 from by decide];by_cases hz:x%8=0 <;> simp[hz] <;> omega
     ·rw[show (2:Int)^6=64 from by decide,show (2:Int)^(8-6)=4 from by decide];by_cases hz:x%4=0 <;> simp[hz] <;> omega
     ·rw[show (2:Int)^7=128 from by decide,show (2:Int)^(8-7)=2 from by decide];by_cases hz:x%2=0 <;> simp[hz] <;> omega
    rw[e3]
    unfold qaX
    by_cases hz:x%2^(8-m%8)=0
    ·rw[if_neg (by simp[hz]),if_neg (by simp[hz])]
    ·rw[if_pos (by simp[hz]),if_pos ⟨by omega,hz⟩]
theorem qtd {F:Nat}{x:qAq}(h:x.length≤1000000):yr F x=some x:=by
 unfold yr
 rw[qT (by simp;omega)]
 rfl
theorem qtQ {F:Nat}{n:Int}{b:qAq}(h:b.length≤1000000):qfn F n b=some (n,b):=by
 unfold qfn
 rw[qtd h]
 rfl
theorem qnk {F:Nat}(hF:20000≤F){n m:Nat}{a b:qAq}(ha:U8s a)(hb:U8s b)(oa:Ok n a)(ob:Ok m b):qaj F n a m b=some (((n+m:Nat):Int),pk (bl a n++bl b m)):=by
 unfold qaj
 have hal:a.length≤1000000:=by rw[oa.len];have:=oa.max;omega
 rw[qtQ hal]
 simp only[qxD,qf6,qeT]
 have hm:=ob.max
 have hn:=oa.max
 have:=qpa (F:=F) (n:=(m:Int)) hb (yy:=fun (p:Int×qAq) (x53:Int)=>qbX F p.1 p.2 x53) (fun l x hl hx hlen=>by
  simp only[qbX]
  rw[qs5 hl hx (by omega)]
  rfl) (to:=m) (by rw[ob.len];omega) (by omega) F 0 (bl a n) (by omega) (by omega) (qpY a n) (by rw[qab];omega)
 rw[qab,qtY ha oa,qxT,Nat.sub_zero] at this
 rw[show ((0:Nat):Int)=0 from rfl] at this
 have h2:zZ F (fun (x:Int×qAq) (x53:Int)=>match x with | (x45,x48)=>qbX F x45 x48 x53) (m:Int) (m:Int) b F (0,((n:Int),a))=some (.inl (((n+m:Nat):Int),pk (bl a n++bl b m))):=this
 rw[h2]
 rfl
def I64 (n:Int):Prop:=-9223372036854775808≤n∧n<9223372036854775808
theorem qrr {l:qAq}{k:Nat}(hk:k<(l.length+7)/8):(pk l).getD k 0=byt l k:=by
 unfold pk
 simp[qyH,hk]
theorem qfF {l:qAq}(h:Bit l):U8s (pk l):=by
 intro x hx
 obtain ⟨k,_,rfl⟩:=List.mem_map.1 hx
 exact qhy h k
theorem qfE (l:qAq):(pk l).length=(l.length+7)/8:=by simp[pk]
theorem qiR {l:qAq}(hm:l.length≤8192):Ok l.length (pk l) where
 max:=hm
 len:=qfE l
 low:=fun h=>by
  rw[qrr (by omega)]
  exact qqX
theorem qoD {l:qAq}(h:Bit l){i:Nat}(hi:i<l.length):bitAt (pk l) i=l.getD i 0:=by
 obtain ⟨k,hk⟩:∃ k,k=i/8:=⟨_,rfl⟩
 obtain ⟨r,hr⟩:∃ r,r=i%8:=⟨_,rfl⟩
 have hl:i=8*k+r:=by omega
 have hr8:r<8:=by omega
 obtain ⟨c0,c1,c2,c3,c4,c5,c6,c7⟩:=qni (pk l) k
 have hb:(pk l).getD k 0=byt l k:=qrr (by omega)
 rw[hb] at c0 c1 c2 c3 c4 c5 c6 c7
 have hbd:∀ q,0≤l.getD q 0∧l.getD q 0≤1:=fun q=>by have:=h.getD q;omega
 have h0:=hbd (8*k);have h1:=hbd (8*k+1);have h2:=hbd (8*k+2);have h3:=hbd (8*k+3)
 have h4:=hbd (8*k+4);have h5:=hbd (8*k+5);have h6:=hbd (8*k+6);have h7:=hbd (8*k+7)
 clear hbd hb
 unfold byt at c0 c1 c2 c3 c4 c5 c6 c7
 rcases (by omega:r=0∨r=1∨r=2∨r=3∨r=4∨r=5∨r=6∨r=7) with rfl | rfl | rfl | rfl | rfl | rfl | rfl | rfl
 ·rw[hl,qyO,c0];clear c0 c1 c2 c3 c4 c5 c6 c7;generalize l.getD (8*k) 0=y0 at *;generalize l.getD (8*k+1) 0=y1 at *;generalize l.getD (8*k+2) 0=y2 at *;generalize l.getD (8*k+3) 0=y3 at *;generalize l.getD (8*k+4) 0=y4 at *;generalize l.getD (8*k+5) 0=y5 at *;generalize l.getD (8*k+6) 0=y6 at *;generalize l.getD (8*k+7) 0=y7 at *;clear h hi hl hr hk hr8;omega
 ·rw[hl,c1];clear c0 c1 c2 c3 c4 c5 c6 c7;generalize l.getD (8*k) 0=y0 at *;generalize l.getD (8*k+1) 0=y1 at *;generalize l.getD (8*k+2) 0=y2 at *;generalize l.getD (8*k+3) 0=y3 at *;generalize l.getD (8*k+4) 0=y4 at *;generalize l.getD (8*k+5) 0=y5 at *;generalize l.getD (8*k+6) 0=y6 at *;generalize l.getD (8*k+7) 0=y7 at *;clear h hi hl hr hk hr8;omega
 ·rw[hl,c2];clear c0 c1 c2 c3 c4 c5 c6 c7;generalize l.getD (8*k) 0=y0 at *;generalize l.getD (8*k+1) 0=y1 at *;generalize l.getD (8*k+2) 0=y2 at *;generalize l.getD (8*k+3) 0=y3 at *;generalize l.getD (8*k+4) 0=y4 at *;generalize l.getD (8*k+5) 0=y5 at *;generalize l.getD (8*k+6) 0=y6 at *;generalize l.getD (8*k+7) 0=y7 at *;clear h hi hl hr hk hr8;omega
 ·rw[hl,c3];clear c0 c1 c2 c3 c4 c5 c6 c7;generalize l.getD (8*k) 0=y0 at *;generalize l.getD (8*k+1) 0=y1 at *;generalize l.getD (8*k+2) 0=y2 at *;generalize l.getD (8*k+3) 0=y3 at *;generalize l.getD (8*k+4) 0=y4 at *;generalize l.getD (8*k+5) 0=y5 at *;generalize l.getD (8*k+6) 0=y6 at *;generalize l.getD (8*k+7) 0=y7 at *;clear h hi hl hr hk hr8;omega
 ·rw[hl,c4];clear c0 c1 c2 c3 c4 c5 c6 c7;generalize l.getD (8*k) 0=y0 at *;generalize l.getD (8*k+1) 0=y1 at *;generalize l.getD (8*k+2) 0=y2 at *;generalize l.getD (8*k+3) 0=y3 at *;generalize l.getD (8*k+4) 0=y4 at *;generalize l.getD (8*k+5) 0=y5 at *;generalize l.getD (8*k+6) 0=y6 at *;generalize l.getD (8*k+7) 0=y7 at *;clear h hi hl hr hk hr8;omega
 ·rw[hl,c5];clear c0 c1 c2 c3 c4 c5 c6 c7;generalize l.getD (8*k) 0=y0 at *;generalize l.getD (8*k+1) 0=y1 at *;generalize l.getD (8*k+2) 0=y2 at *;generalize l.getD (8*k+3) 0=y3 at *;generalize l.getD (8*k+4) 0=y4 at *;generalize l.getD (8*k+5) 0=y5 at *;generalize l.getD (8*k+6) 0=y6 at *;generalize l.getD (8*k+7) 0=y7 at *;clear h hi hl hr hk hr8;omega
 ·rw[hl,c6];clear c0 c1 c2 c3 c4 c5 c6 c7;generalize l.getD (8*k) 0=y0 at *;generalize l.getD (8*k+1) 0=y1 at *;generalize l.getD (8*k+2) 0=y2 at *;generalize l.getD (8*k+3) 0=y3 at *;generalize l.getD (8*k+4) 0=y4 at *;generalize l.getD (8*k+5) 0=y5 at *;generalize l.getD (8*k+6) 0=y6 at *;generalize l.getD (8*k+7) 0=y7 at *;clear h hi hl hr hk hr8;omega
 ·rw[hl,c7];clear c0 c1 c2 c3 c4 c5 c6 c7;generalize l.getD (8*k) 0=y0 at *;generalize l.getD (8*k+1) 0=y1 at *;generalize l.getD (8*k+2) 0=y2 at *;generalize l.getD (8*k+3) 0=y3 at *;generalize l.getD (8*k+4) 0=y4 at *;generalize l.getD (8*k+5) 0=y5 at *;generalize l.getD (8*k+6) 0=y6 at *;generalize l.getD (8*k+7) 0=y7 at *;clear h hi hl hr hk hr8;omega
theorem qbS {l:qAq}(h:Bit l):bl (pk l) l.length=l:=by
 apply qyX
 intro i
 by_cases hi:i<l.length
 ·have h1:(bl (pk l) l.length)[i]?=some (bitAt (pk l) i):=by simp[bl,hi]
  rw[h1,qoD h hi]
  simp[qyH,hi]
 ·rw[qx2 (by rw[qab];omega),qx2 (by omega)]
theorem qus (F:Nat){xs ys:qAq}(hl:xs.length=ys.length)(hm:xs.length≤9223372036854775807):∀ (k i:Nat),xs.length<k+i→i≤xs.length →
  vp F xs ys k (i:Int)=some (decide (xs.drop i=ys.drop i))
 | 0,i,h,_=>by omega
 | k+1,i,h,hi=>by
  show qcn F xs ys (vp F xs ys k) i=_
  unfold qcn
  by_cases hlt:i<xs.length
  ·have hlt':(i:Int)<(xs.length:Int):=by omega
   have hlt2:i<ys.length:=by omega
   have hg:xs[i]?=some xs[i]:=by simp[hlt]
   have hg2:ys[i]?=some ys[i]:=by simp[hlt2]
   simp only[hlt',decide_true,if_true,qt,hg,hg2,qxD]
   have e:(xs.drop i=ys.drop i)↔(xs[i]=ys[i]∧xs.drop (i+1)=ys.drop (i+1)):=by
    rw[qxI hlt,qxI hlt2,List.cons.injEq]
   simp only[e]
   by_cases he:xs[i]=ys[i]
   ·simp only[he,bne_self_eq_false,qxP,if_false,true_and]
    rw[qw (by omega) (by omega),show (i:Int)+1=((i+1:Nat):Int) from by omega,qus F hl hm k (i+1) (by omega) (by omega)]
   ·have:(xs[i] != ys[i])=true:=by simpa using he
    simp only[this,if_true,he,false_and,decide_false]
  ·have hlt':¬ (i:Int)<(xs.length:Int):=by omega
   simp only[hlt',decide_false,qxP,if_false]
   rw[qxN (by omega),qxN (by omega)]
   rfl
theorem qn2 {F:Nat}{xs ys:qAq}(hF:xs.length<F)(hm:xs.length≤9223372036854775807):qeo F xs ys=some (decide (xs=ys)):=by
 unfold qeo
 by_cases hl:xs.length=ys.length
 ·have:(((xs.length:Int):Int) != (ys.length:Int))=false:=by simp[hl]
  simp only[this,qxP,if_false]
  have:=qus F hl hm F 0 (by omega) (by omega)
  simpa using this
 ·have:(((xs.length:Int):Int) != (ys.length:Int))=true:=by simp;omega
  simp only[this,if_true]
  have:xs≠ys:=fun e=>hl (by rw[e])
  simp[this]
theorem qhp {F:Nat}{n m:Int}{xs ys:qAq}(hF:xs.length<F)(hm:xs.length≤9223372036854775807):qaD F n xs m ys=some (decide (n=m∧xs=ys)):=by
 unfold qaD
 by_cases h:n=m
 ·have hb:(n == m)=true:=by simp[h]
  rw[if_pos hb,qn2 hF hm]
  simp[qaR,h]
 ·have hb:(n == m)=false:=by simpa using h
  rw[hb]
  simp[qaR,h]
theorem qoJ {n:Nat}{b:qAq}(h:Ok n b):chkOf (n:Int) b=0:=by
 unfold chkOf
 have:=h.max
 have:=h.len
 rw[if_neg (by omega),if_neg (by omega),if_neg]
 rintro ⟨h1,h2⟩
 rw[qxH] at h2
 exact h2 (h.low (by omega))
theorem qvf {b:qAq}{n m:Nat}(h:n≤m):(bl b m).take n=bl b n:=by
 unfold bl
 rw[← List.map_take,List.take_range,qy9 h]
theorem kw {l k:qAq}(h:Bit l)(h2:Bit k):Bit (l++k):=by
 intro x hx
 rcases qxL.1 hx with h3 | h3
 ·exact h x h3
 ·exact h2 x h3
theorem two64:(2:Nat)^64=18446744073709551616:=by decide
theorem qky {n k:Nat}(hn:n<18446744073709551616):ishr .u64 (n:Int) (k:Int)=((n/2^k:Nat):Int):=by
 unfold ishr
 rw[Int.fdiv_eq_ediv_of_nonneg _ (by exact_mod_cast Nat.zero_le _),qxH]
 simp only[IntKind.bits]
 by_cases h:k≤64
 ·rw[qy9 h];norm_cast
 ·rw[Nat.min_eq_right (by omega)]
  have h1:n/2^64=0:=qz9 (by omega)
  have h2:n/2^k=0:=qz9 (qzu hn (by rw[← two64];exact qx4 (by decide) (by omega)))
  rw[h2]
  have:((n:Int)/2^64)=((n/2^64:Nat):Int):=by norm_cast
  rw[this,h1]
theorem qvw {n:Nat}(hn:n<18446744073709551616):iand .u64 (n:Int) 1=((n%2:Nat):Int):=by
 have e:=qhA (k:=.u64) (a:=(n:Int)) (m:=1) (by omega) (by simp only[IntKind.bits];rw[show (2:Int)^64=18446744073709551616 from by decide];omega) (by decide) rfl
 rw[show ((2^1-1:Nat):Int)=1 from rfl,show (2:Int)^1=2 from rfl] at e
 rw[e];omega
theorem qio {n k:Nat}(hk:k≤64):ishl .u64 (n:Int) (k:Int)=((n*2^k%18446744073709551616:Nat):Int):=by
 rw[qkx hk,Int.natCast_emod,qy1,Int.natCast_pow];rfl
theorem qxm {a b m:Nat}(ha:a<2^m)(hb:b%2^m=0)(h:a+b<18446744073709551616):ior .u64 (b:Int) (a:Int)=((b+a:Nat):Int):=by
 rw[qoZ,qre (m:=m) (by omega) (by exact_mod_cast ha) (by omega) (by exact_mod_cast hb) rfl (by simp only[IntKind.bits];rw[show (2:Int)^64=18446744073709551616 from by decide];omega)]
 omega
theorem vg {a b:Nat}(h:a+b<9223372036854775808):iadd .i64 (a:Int) (b:Int)=((a+b:Nat):Int):=by rw[qw (by omega) (by omega)];omega
theorem qn {a:Nat}(h:a+1<9223372036854775808):iadd .i64 (a:Int) 1=((a+1:Nat):Int):=by rw[qw (by omega) (by omega)];omega
theorem qnG {a b:Nat}(h:b≤a)(h2:a<9223372036854775808):isub .i64 (a:Int) (b:Int)=((a-b:Nat):Int):=by rw[qy (by omega) (by omega)];omega
theorem yO {a:Nat}(h:1≤a)(h2:a<9223372036854775808):isub .i64 (a:Int) 1=((a-1:Nat):Int):=by rw[qy (by omega) (by omega)];omega
def nb (n:Nat):Nat→qAq
 | 0=>[]
 | w+1=>((n/2^w%2:Nat):Int)::nb n w
theorem qbj (n:Nat):∀ w,(nb n w).length=w
 | 0=>rfl
 | w+1=>by simp[nb,qbj n w]
theorem qkH (n:Nat):∀ w,Bit (nb n w)
 | 0=>by intro x hx;simp[nb] at hx
 | w+1=>by
  intro x hx
  rcases qxO.1 hx with rfl | h
  ·omega
  ·exact qkH n w x h
def bv (l:qAq):Nat:=l.foldl (fun n b=>2*n+b.toNat) 0
theorem qvg (l:qAq):∀ m,l.foldl (fun n b=>2*n+b.toNat) m=m*2^l.length+bv l:=by
 induction l with
 | nil=>intro m;simp[bv]
 | cons x l ih =>
  intro m
  show l.foldl _ _=_
  rw[ih]
  show _=_+l.foldl _ _
  rw[ih,qxX,qyS]
  generalize 2^l.length=p
  rw[qzn,qzn]
  have:2*m*p=m*(p*2):=by rw[qzi 2 m,Nat.mul_assoc,qzi 2 p]
  omega
theorem qki (l k:qAq):bv (l++k)=bv l*2^k.length+bv k:=by
 unfold bv
 rw[List.foldl_append,qvg k];rfl
theorem qnl (x:Int)(l:qAq):bv (x::l)=x.toNat*2^l.length+bv l:=by
 have:=qki [x] l
 simpa[bv] using this
theorem qkj {l:qAq}(h:Bit l):bv l<2^l.length:=by
 induction l with
 | nil=>simp[bv]
 | cons x l ih =>
  have h1:=ih (fun y hy=>h y (qxZ _ hy))
  rw[qnl,qxX,qyS]
  rcases h x qx5 with rfl | rfl
  ·simp;omega
  ·simp;omega
theorem qkk (n:Nat):∀ w,bv (nb n w)=n%2^w
 | 0=>by simp[nb,bv,Nat.mod_one]
 | w+1=>by
  rw[nb,qnl,qbj,qkk n w,qxH,qyS,Nat.mod_mul,qzi,qy5]
theorem qtM (n a:Nat):∀ b,nb n (b+a)=nb (n/2^a) b++nb n a
 | 0=>by simp[nb]
 | b+1=>by
  rw[show b+1+a=(b+a)+1 from by omega,nb,qtM n a b,nb,qyU]
  congr 3
  rw[Nat.div_div_eq_div_mul,← qzp,qy5]
theorem qnM (n w:Nat):nb n (w+1)=nb (n/2) w++[((n%2:Nat):Int)]:=by
 have:=qtM n 1 w
 simpa[nb] using this
theorem qo5 {F:Nat}{n:Nat}(hn:n<18446744073709551616):∀ (w k:Nat) (l:qAq),w<k→Bit l→l.length+w≤100000 →
  zV F (n:Int) k ((w:Int)-1,(l.length:Int),pk l)=some (((l.length+w:Nat):Int),pk (l++nb n w))
 | _,0,_,h,_,_=>by omega
 | 0,k+1,l,_,_,_=>by
  show zU F (n:Int) _ (((0:Nat):Int)-1) (l.length:Int) (pk l)=_
  unfold zU
  rw[if_neg (by simp)]
  simp[nb]
 | w+1,k+1,l,h,hl,hm=>by
  show zU F (n:Int) (zV F (n:Int) k) (((w+1:Nat):Int)-1) (l.length:Int) (pk l)=_
  unfold zU
  rw[show ((w+1:Nat):Int)-1=(w:Int) from by omega,if_pos (by simp)]
  have hc:decide ((0:Int)≤(w:Int))=true:=decide_eq_true (by omega)
  rw[hc]
  simp only[chk,if_true]
  rw[qky hn,qvw (by have:=qyT n (2^w);omega)]
  have hx:((n/2^w%2:Nat):Int)=0∨((n/2^w%2:Nat):Int)=1:=by omega
  rw[qs5 hl hx (by omega)]
  simp only[qxD]
  rw[qy (by omega) (by omega)]
  have:=qo5 (F:=F) hn w k (l++[((n/2^w%2:Nat):Int)]) (by omega) (kw hl (by intro y hy;simp only[List.mem_singleton] at hy;rw[hy];exact hx)) (by simp;omega)
  rw[show (l++[((n/2^w%2:Nat):Int)]).length=l.length+1 from by simp] at this
  rw[this,qxG,show l.length+1+w=l.length+(w+1) from by omega]
  rfl
theorem qsx {F:Nat}{n w:Nat}{l:qAq}(hn:n<18446744073709551616)(hF:w<F)(hl:Bit l)(hm:l.length+w≤100000) :
  jp F (l.length:Int) (pk l) (n:Int) (w:Int)=some (((l.length+w:Nat):Int),pk (l++nb n w)):=by
 unfold jp
 rw[qy (by omega) (by omega)]
 exact qo5 hn w F l hF hl hm
theorem qwB {F:Nat}{n w m:Nat}{b:qAq}(hn:n<18446744073709551616)(hF:w<F)(hb:U8s b)(ob:Ok m b)(hw:w≤10000) :
  vB F (m:Int) b (n:Int) (w:Int)=some (((m+w:Nat):Int),pk (bl b m++nb n w)):=by
 unfold vB
 have:=ob.max
 rw[qtQ (by rw[ob.len];omega)]
 simp only[qxD]
 have h:=qsx (F:=F) (l:=bl b m) hn hF (qpY _ _) (by rw[qab];omega)
 rw[qab,qtY hb ob] at h
 rw[h];rfl
def U64 (n:Int):Prop:=0≤n∧n<18446744073709551616
theorem qpZ {b:qAq}{n i:Nat}(h:i<n):(bl b n)[i]?=some (bitAt b i):=by simp[bl,h]
theorem qud {F:Nat}{n:Int}{m a w:Nat}{b:qAq}(hb:U8s b)(hlen:m≤8*b.length)(hm:m≤10000)(ha:a+w≤m)(hw:w≤64):∀ (k i v:Nat),w<k+i→i≤w→v<2^i →
  j2 F n b (a:Int) (w:Int) k ((v:Int),(i:Int))=some (((v*2^(w-i)+bv (((bl b m).drop (a+i)).take (w-i)):Nat):Int),true)
 | 0,_,_,_,_,_=>by omega
 | k+1,i,v,h,hi,hv=>by
  show qdG F n b (a:Int) (w:Int) (j2 F n b (a:Int) (w:Int) k) (v:Int) (i:Int)=_
  unfold qdG
  by_cases hlt:i<w
  ·rw[if_pos (by simp;omega),vg (by omega),qs3 hb (by omega) (by omega)]
   simp only[qxD]
   have hx:=qjd b (a+i)
   have hv64:2*v+1<18446744073709551616:=by
    have:2^(i+1)≤2^64:=qx4 (by decide) (by omega)
    rw[qyS,two64] at this
    omega
   obtain ⟨x,hxe⟩:∃ x:Nat,bitAt b (a+i)=(x:Int):=qxK (by omega)
   have hx1:x<2:=by omega
   have e1:ishl .u64 (v:Int) 1=((v*2:Nat):Int):=by
    have:=qio (n:=v) (k:=1) (by decide)
    rw[show ((1:Nat):Int)=1 from rfl] at this
    rw[this];omega
   have e2:ior .u64 ((v*2:Nat):Int) (x:Int)=((v*2+x:Nat):Int):=qxm (m:=1) (by omega) (by omega) (by omega)
   rw[hxe,e1,e2,qn (by omega)]
   rw[qud hb hlen hm ha hw k (i+1) (v*2+x) (by omega) (by omega) (by rw[qyS];omega)]
   have hd:((bl b m).drop (a+i)).take (w-i)=(x:Int)::((bl b m).drop (a+(i+1))).take (w-(i+1)):=by
    rw[qxI (by rw[qab];omega),show w-i=(w-(i+1))+1 from by omega,List.take_succ_cons,show a+i+1=a+(i+1) from by omega]
    congr 1
    have:=qpZ (b:=b) (n:=m) (i:=a+i) (by omega)
    rw[qxE (by rw[qab];omega)] at this
    rw[← hxe];exact qzx this
   rw[hd,qnl,qxH]
   have hl:(((bl b m).drop (a+(i+1))).take (w-(i+1))).length=w-(i+1):=by simp[qab];omega
   rw[hl,show w-i=(w-(i+1))+1 from by omega,qyS,qzn]
   congr 3
   rw[Nat.mul_assoc,qzi 2,qyF]
  ·rw[if_neg (by simp;omega)]
   rw[show w-i=0 from by omega]
   simp[qfm,bv]
theorem qvN {F:Nat}{m a w:Nat}{b:qAq}(hF:100≤F)(hb:U8s b)(ob:Ok m b)(ha:a≤m)(hw:w≤64) :
  jn F (m:Int) b (a:Int) (w:Int)=some (if a+w≤m then (((bv (((bl b m).drop a).take w):Nat):Int),true) else (0,false)):=by
 unfold jn
 have hmx:=ob.max
 rw[qnG ha (by omega)]
 by_cases h:a+w≤m
 ·rw[if_neg (by simp;omega),if_pos h]
  have:=qud (F:=F) (n:=(m:Int)) (m:=m) (a:=a) (w:=w) hb (by rw[ob.len];omega) (by omega) h hw F 0 0 (by omega) (by omega) (by decide)
  simpa using this
 ·rw[if_pos (by simp;omega),if_neg h]
theorem qnF (n:Nat):irem (n:Int) 2=((n%2:Nat):Int):=by
 unfold irem;rw[qzk (by omega)];omega
theorem qvy {n:Nat}(h:n≤9223372036854775807):iquo .i64 (n:Int) 2=((n/2:Nat):Int):=by
 unfold iquo;rw[qyG (by omega),qX (by omega) (by omega)];omega
theorem qrf {n:Nat}(h:n<18446744073709551616):iquo .u64 (n:Int) 2=((n/2:Nat):Int):=by
 unfold iquo;rw[qyG (by omega),zG (by omega) (by omega)];omega
theorem yA {n:Nat}(h:n<9223372036854775808):iconv .i64 (n:Int)=(n:Int):=qX (by omega) (by omega)
theorem zz {n:Nat}(h:n<18446744073709551616):iconv .u64 (n:Int)=(n:Int):=zG (by omega) (by omega)
theorem qnp (x k:Nat):x/2^(k+1)=x/2/2^k:=by rw[qyS,qzi,Nat.div_div_eq_div_mul]
theorem qkh {F:Nat}{rec38:(qAq×Int)→Option (qAq)}{l:qAq}{i:Nat}(hm:i≤100000):∀ (k j x:Nat),7-i%8<k+j→j≤7-i%8→x<256 →
  vP F rec38 l (i:Int) k ((x:Int),(j:Int))=qcR F rec38 l (i:Int) ((x/2^(7-i%8-j):Nat):Int)
 | 0,_,_,_,_,_=>by omega
 | k+1,j,x,h,hj,hx=>by
  show qcQ F rec38 l (i:Int) (vP F rec38 l (i:Int) k) (x:Int) (j:Int)=_
  unfold qcQ
  rw[irem8,qy (by omega) (by omega)]
  by_cases hlt:j<7-i%8
  ·rw[if_pos (by simp;omega),qvy (by omega),qn (by omega),qkh hm k (j+1) (x/2) (by omega) (by omega) (by omega)]
   rw[show 7-i%8-j=(7-i%8-(j+1))+1 from by omega,qnp]
  ·rw[if_neg (by simp;omega),show 7-i%8-j=0 from by omega]
   simp
theorem qlY {F:Nat}(hF:100≤F){b:qAq}(hb:U8s b){n:Nat}(hn:n≤8*b.length)(hm:n≤100000):∀ (k i:Nat),n<k+i→i≤n →
  zM F (n:Int) b k (bl b i,(i:Int))=some (bl b n)
 | 0,_,_,_=>by omega
 | k+1,i,h,hi=>by
  show qcP F (n:Int) b (zM F (n:Int) b k) (bl b i) (i:Int)=_
  unfold qcP
  by_cases hlt:i<n
  ·rw[if_pos (by simp;omega),iquo8 (by omega),qt]
   have hg:b[i/8]?=some b[i/8]:=by rw[qxE (by omega)]
   rw[hg]
   simp only[qxD]
   have hx:=hb b[i/8] (qx8 (by omega))
   obtain ⟨x,hxe⟩:=qxK hx.1
   rw[hxe,yA (by omega)]
   rw[show ((0:Int))=((0:Nat):Int) from rfl,qkh (by omega) F 0 x (by omega) (by omega) (by omega)]
   unfold qcR
   rw[qnF,qT (by rw[qab];simp;omega)]
   simp only[qxD,qeP]
   rw[qn (by omega)]
   have e:bl b i++[((x/2^(7-i%8-0)%2:Nat):Int)]=bl b (i+1):=by
    rw[qve]
    congr 2
    unfold bitAt
    simp only[qyH,hg,Option.getD_some,hxe,Nat.sub_zero]
    norm_cast
   rw[e]
   exact qlY hF hb hn hm k (i+1) (by omega) (by omega)
  ·rw[if_neg (by simp;omega)]
   obtain rfl:i=n:=by omega
   rfl
theorem qih {F:Nat}(hF:20000≤F){b:qAq}(hb:U8s b){n:Nat}(hn:n≤8*b.length)(hm:n≤10000):qai F (n:Int) b=some (bl b n):=by
 unfold qai
 exact qlY (by omega) hb hn (by omega) F 0 (by omega) (by omega)
theorem qqU {l:qAq}(h:Bit l){i:Nat}(hi:i<l.length):∃ x:Nat,l[i]?=some (x:Int)∧x<2:=by
 have:=h l[i] (qx8 hi)
 obtain ⟨x,hx⟩:=qxK (show 0≤l[i] by omega)
 exact ⟨x,by rw[qxE hi,hx],by omega⟩
theorem qjZ {n:Nat}(h:n<4611686018427387904):imul .i64 2 (n:Int)=((2*n:Nat):Int):=by rw[qoY (by omega) (by omega)];omega
def byN (l:qAq)(i:Nat):Nat→Nat
 | 0=>0
 | k+1=>2*byN l i k+(l.getD (i+k) 0).toNat
theorem qs9 {l:qAq}(h:Bit l)(i:Nat):∀ k,byN l i k<2^k
 | 0=>by simp[byN]
 | k+1=>by
  have:=qs9 h i k
  have h2:=h.getD (i+k)
  unfold byN
  rw[qyS]
  omega
theorem qxh {l:qAq}(h:Bit l)(i:Nat):((byN l (8*i) 8:Nat):Int)=byt l i:=by
 have h0:=h.getD (8*i);have h1:=h.getD (8*i+1);have h2:=h.getD (8*i+2);have h3:=h.getD (8*i+3)
 have h4:=h.getD (8*i+4);have h5:=h.getD (8*i+5);have h6:=h.getD (8*i+6);have h7:=h.getD (8*i+7)
 unfold byt
 simp only[byN,qyO]
 omega
theorem qhk {F:Nat}{rec98:(Int×qAq)→Option (Int×qAq)}{l o:qAq}(hl:Bit l){i:Nat}(hm:i≤100000)(hlm:l.length≤100000):∀ (k j:Nat),8<k+j→j≤8 →
  kG F rec98 l (i:Int) o k ((byN l i j:Nat),(j:Int))=qbq F rec98 (i:Int) o ((byN l i 8:Nat):Int)
 | 0,_,_,_=>by omega
 | k+1,j,h,hj=>by
  show qbp F rec98 l (i:Int) o (kG F rec98 l (i:Int) o k) ((byN l i j:Nat):Int) (j:Int)=_
  unfold qbp
  by_cases hlt:j<8
  ·have hb:=qs9 hl i j
   have hp:2^j≤2^8:=qx4 (by decide) hj
   rw[show 2^8=256 from by decide] at hp
   rw[if_pos (by simp;omega),vg (by omega)]
   by_cases h2:i+j<l.length
   ·rw[if_pos (by simp;omega),qt]
    obtain ⟨x,hx,hx2⟩:=qqU hl h2
    rw[hx]
    simp only[qxD,je]
    rw[qjZ (by omega),vg (by omega),qn (by omega)]
    have e:2*byN l i j+x=byN l i (j+1):=by
     simp[byN,qyH,hx]
    rw[e]
    exact qhk hl hm hlm k (j+1) (by omega) (by omega)
   ·rw[if_neg (by simp;omega)]
    simp only[je]
    rw[qjZ (by omega),qn (by omega)]
    have e:2*byN l i j=byN l i (j+1):=by
     show _=2*_+(l.getD (i+j) 0).toNat
     rw[qaM (by omega)];rfl
    rw[e]
    exact qhk hl hm hlm k (j+1) (by omega) (by omega)
  ·rw[if_neg (by simp;omega)]
   obtain rfl:j=8:=by omega
   rfl
theorem qkK {F:Nat}(hF:100≤F){l:qAq}(hl:Bit l)(hm:l.length≤90000):∀ (k i:Nat),(l.length+7)/8<k+i→i≤(l.length+7)/8 →
  zd F l k (((8*i:Nat):Int),(qyr i).map (byt l))=some ((l.length:Int),pk l)
 | 0,_,_,_=>by omega
 | k+1,i,h,hi=>by
  show qcf F l (zd F l k) ((8*i:Nat):Int) ((qyr i).map (byt l))=_
  unfold qcf
  by_cases hlt:8*i<l.length
  ·rw[if_pos (by simp;omega)]
   have:=qhk (F:=F) (rec98:=zd F l k) (o:=(qyr i).map (byt l)) hl (i:=8*i) (by omega) (by omega) F 0 (by omega) (by omega)
   rw[show ((byN l (8*i) 0:Nat):Int)=0 from rfl,show ((0:Nat):Int)=0 from rfl] at this
   rw[this]
   unfold qbq
   rw[qxh hl]
   have hr:=qhy hl i
   rw[show iconv .u8 (byt l i)=byt l i from qr6 hr.1 hr.2,qT (by simp;omega)]
   simp only[qxD,qdy]
   rw[show ((8:Int))=((8:Nat):Int) from rfl,vg (by omega),show 8*i+8=8*(i+1) from by omega]
   have e:(qyr i).map (byt l)++[byt l i]=(qyr (i+1)).map (byt l):=by rw[qzF,qy2];rfl
   rw[e]
   exact qkK hF hl hm k (i+1) (by omega) (by omega)
  ·rw[if_neg (by simp;omega)]
   obtain rfl:i=(l.length+7)/8:=by omega
   rfl
theorem qhj {F:Nat}(hF:20000≤F){l:qAq}(hl:Bit l)(hm:l.length≤90000):qce F l=some ((l.length:Int),pk l):=by
 unfold qce
 exact qkK (by omega) hl hm F 0 (by omega) (by omega)
theorem qdn {F:Nat}{a b c:Int}:zu F a b c=some (decide (b≤a∧a≤c)):=by
 unfold zu
 congr 1
 by_cases h:b≤a <;> by_cases h2:a≤c <;> simp[h,h2]
theorem qoE {F:Nat}{l:qAq}(hl:Bit l)(hm:l.length≤64):∀ (k i:Nat),l.length<k+i→i≤l.length →
  qa5 F l k ((bv (l.take i):Nat),(i:Int))=some ((bv l:Nat):Int)
 | 0,_,_,_=>by omega
 | k+1,i,h,hi=>by
  show qee F l (qa5 F l k) ((bv (l.take i):Nat):Int) (i:Int)=_
  unfold qee
  by_cases hlt:i<l.length
  ·rw[if_pos (by simp;omega),qt]
   obtain ⟨x,hx,hx2⟩:=qqU hl hlt
   rw[hx]
   simp only[qxD,lett]
   rw[zz (by omega),qn (by omega)]
   have hb:bv (l.take (i+1))=2*bv (l.take i)+x:=by
    have:l.take (i+1)=l.take i++[(x:Int)]:=by rw[qzb,hx];rfl
    rw[this,qki]
    simp[bv]
    omega
   have hlt2:bv (l.take (i+1))<2^64:=qzu (qkj (fun y hy=>hl y (qy8 hy))) (qx4 (by decide) (by simp;omega))
   rw[two64,hb] at hlt2
   have e:iadd .u64 (imul .u64 2 ((bv (l.take i):Nat):Int)) (x:Int)=((bv (l.take (i+1)):Nat):Int):=by
    unfold iadd imul
    rw[zG (n:=2*_) (by omega) (by omega),zG (by omega) (by omega),hb]
    omega
   rw[e]
   exact qoE hl hm k (i+1) (by omega) (by omega)
  ·rw[if_neg (by simp;omega)]
   obtain rfl:i=l.length:=by omega
   rw[qzq];rfl
theorem qsi {F:Nat}(hF:100≤F){l:qAq}(hl:Bit l)(hm:l.length≤64):qgu F l=some ((bv l:Nat):Int):=by
 unfold qgu
 exact qoE hl hm F 0 (by omega) (by omega)
theorem qmi {F w:Nat}(hw:w≤100000):∀ (k i n:Nat) (t:qAq),i<k→i≤w→n<18446744073709551616 →
  vz F k ((n:Int),qxJ i 0++t,(i:Int)-1)=some (nb n i++t)
 | 0,_,_,_,h,_,_=>by omega
 | k+1,0,n,t,h,_,_=>by
  show jS F (vz F k) (n:Int) _ _=_
  unfold jS
  rw[if_neg (by simp)]
  simp[qfi,nb]
 | k+1,i+1,n,t,h,hi,hn=>by
  show jS F (vz F k) (n:Int) (qxJ (i+1) 0++t) (((i+1:Nat):Int)-1)=_
  unfold jS
  rw[show ((i+1:Nat):Int)-1=(i:Int) from by omega,if_pos (by simp),qt]
  have hg:(qxJ (i+1) (0:Int)++t)[i]?=some 0:=by
   rw[qyP (by simp)];simp
  rw[hg]
  simp only[qxD,lett]
  rw[qnF,yA (by omega),qrf hn,qy (by omega) (by omega),qxH]
  have e:(qxJ (i+1) (0:Int)++t).set i ((n%2:Nat):Int)=qxJ i 0++(((n%2:Nat):Int)::t):=by
   rw[qzW,qxG,List.set_append_right _ _ (by simp)]
   simp
  rw[e,qmi hw k i (n/2) _ (by omega) (by omega) (by omega),qnM]
  simp
theorem qiq {F w n:Nat}(hF:w<F)(hw:w≤100000)(hn:n<18446744073709551616):qdr F (n:Int) (w:Int)=some (nb n w):=by
 unfold qdr
 have hmk:mk 17592186044416 (0:Int) (w:Int)=some (qxJ w 0):=by
  unfold mk
  rw[if_pos (by simp;omega)];simp
 rw[hmk]
 simp only[qxD]
 rw[qy (by omega) (by omega)]
 have:=qmi (F:=F) hw F w n [] hF (by omega) hn
 simpa using this
theorem qjy {F:Nat}{l:qAq}(hm:l.length≤100000):∀ (k i:Nat),l.length<k+i→i≤l.length →
  vi F l k (i:Int)=some (if (l.drop i).all (· == 0) then 0 else 1)
 | 0,_,_,_=>by omega
 | k+1,i,h,hi=>by
  show qb4 F l (vi F l k) (i:Int)=_
  unfold qb4
  by_cases hlt:i<l.length
  ·rw[if_pos (by simp;omega),qt,qxE hlt,qxI hlt,List.all_cons]
   simp only[qxD]
   by_cases h0:l[i]=0
   ·rw[h0,if_neg (by simp),qn (by omega),qjy hm k (i+1) (by omega) (by omega)]
    simp
   ·rw[if_pos (by simpa using h0)]
    simp[h0]
  ·rw[if_neg (by simp;omega),qxN (by omega)]
   rfl
theorem qva {b:qAq}(hb:U8s b){m:Nat}(hlen:b.length=(m+7)/8)(hr:m%8≠0):((bl b (8*((m+7)/8))).drop m).all (· == 0)=decide (b.getD (m/8) 0%2^(8-m%8)=0):=by
 obtain ⟨q,hq⟩:∃ q,q=m/8:=⟨_,rfl⟩
 obtain ⟨r,hrr⟩:∃ r,r=m%8:=⟨_,rfl⟩
 have hm:m=8*q+r:=by omega
 have hx:0≤b.getD q 0∧b.getD q 0<256:=by
  have hlt:q<b.length:=by omega
  have:=hb b[q] (qx8 hlt)
  simpa[qyH,hlt] using this
 have hc:(m+7)/8=q+1:=by omega
 obtain ⟨c0,c1,c2,c3,c4,c5,c6,c7⟩:=qni b q
 have hall:((bl b (8*(q+1))).drop m).all (· == 0)=true↔(∀ i,m≤i→i<8*q+8→bitAt b i=0):=by
  rw[List.all_eq_true]
  constructor
  ·intro h i h1 h2
   have hg:((bl b (8*(q+1))).drop m)[i-m]?=some (bitAt b i):=by
    rw[qyt,show m+(i-m)=i from by omega];exact qpZ (by omega)
   have:=h _ (qxM hg)
   simpa using this
  ·intro h x hx
   obtain ⟨j,hj⟩:=qzm hx
   rw[qyt] at hj
   have hjl:m+j<8*(q+1):=by
    have:=(qxQ.1 hj).1;rwa [qab] at this
   rw[qpZ hjl] at hj
   rw[← qzx hj,h _ (by omega) (by omega)];rfl
 rw[hc,← hq,← hrr,Bool.eq_iff_iff,decide_eq_true_iff,hall]
 have hall2:(∀ i,m≤i→i<8*q+8→bitAt b i=0)↔(∀ j,r≤j→j<8→bitAt b (8*q+j)=0):=by
  constructor
  ·intro h j h1 h2;exact h _ (by omega) (by omega)
  ·intro h i h1 h2
   have:=h (i-8*q) (by omega) (by omega)
   rwa [show 8*q+(i-8*q)=i from by omega] at this
 rw[hall2]
 generalize b.getD q 0=x at *
 have mk:∀ j,j<8→(∀ j',r≤j'→j'<8→bitAt b (8*q+j')=0)→r≤j→bitAt b (8*q+j)=0:=fun j h1 h h2=>h j h2 h1
 constructor
 ·intro h
  have g1:=mk 1 (by omega) h;have g2:=mk 2 (by omega) h;have g3:=mk 3 (by omega) h;have g4:=mk 4 (by omega) h
  have g5:=mk 5 (by omega) h;have g6:=mk 6 (by omega) h;have g7:=mk 7 (by omega) h
  rw[c1] at g1;rw[c2] at g2;rw[c3] at g3;rw[c4] at g4;rw[c5] at g5;rw[c6] at g6;rw[c7] at g7
  clear c0 c1 c2 c3 c4 c5 c6 c7 mk hall hall2 h
  rcases (by omega:r=1∨r=2∨r=3∨r=4∨r=5∨r=6∨r=7) with h | h | h | h | h | h | h <;> subst h <;> simp only[Nat.reduceSub,Int.reducePow] <;> omega
 ·intro h j h1 h2
  clear mk hall hall2
  rcases (by omega:r=1∨r=2∨r=3∨r=4∨r=5∨r=6∨r=7) with hh | hh | hh | hh | hh | hh | hh <;> subst hh <;> simp only[Nat.reduceSub,Int.reducePow] at h <;>
   rcases (by omega:j=1∨j=2∨j=3∨j=4∨j=5∨j=6∨j=7) with g | g | g | g | g | g | g <;> subst g <;> first | (exfalso;omega) | (rw[c1];omega) | (rw[c2];omega) | (rw[c3];omega) | (rw[c4];omega) | (rw[c5];omega) | (rw[c6];omega) | (rw[c7];omega)
theorem qiF {F:Nat}(hF:20000≤F){n:Int}{b:qAq}(hb:U8s b):qcF F n b=some (chkOf n b):=by
 unfold qcF chkOf
 rw[qdn]
 simp only[qxD]
 by_cases c1:n<0∨8192<n
 ·rw[if_pos (by simp;omega),if_pos c1]
 ·rw[if_neg (by simp;omega),if_neg c1]
  obtain ⟨m,rfl⟩:=qxK (show 0≤n by omega)
  have hj:∀ c:Nat,c=(m+7)/8→jQ F (m:Int) b (c:Int)=some (if (b.length:Int)≠((m:Int)+7)/8 then 1 else if (m:Int)%8≠0∧b.getD ((m:Int).toNat/8) 0%2^(8-(m:Int).toNat%8)≠0 then 1 else 0):=by
   intro c hc
   unfold jQ
   by_cases c2:b.length=c
   ·rw[if_neg (by simp[c2]),if_neg (by omega)]
    rw[qoY (by omega) (by omega),show (8:Int)*(c:Int)=((8*c:Nat):Int) from by omega,qih hF hb (by omega) (by omega)]
    simp only[qxD]
    rw[qjy (by rw[qab];omega) F m (by rw[qab];omega) (by rw[qab];omega),qxH]
    by_cases hr:m%8=0
    ·rw[qxN (by rw[qab];omega),List.all_nil,if_pos rfl,if_neg (by omega)]
    ·rw[hc,qva hb (by omega) hr]
     by_cases hz:b.getD (m/8) 0%2^(8-m%8)=0
     ·rw[if_pos (decide_eq_true hz),if_neg (fun h=>h.2 hz)]
     ·rw[if_neg (by simp only[decide_eq_true_eq];exact hz),if_pos ⟨by omega,hz⟩]
   ·rw[if_pos (by rw[bne_iff_ne];omega),if_pos (by omega)]
  rw[irem8,iquo8 (by omega)]
  by_cases h8:0<m%8
  ·rw[if_pos (by simp;omega),qn (by omega)]
   exact hj _ (by omega)
  ·rw[if_neg (by simp;omega)]
   exact hj _ (by omega)
theorem qi3 {α:Type}{l:List α}{i j:Nat}(h1:i≤j)(h2:j≤l.length):sub l (i:Int) (j:Int)=some ((l.take j).drop i):=by
 unfold sub
 rw[if_pos ⟨by omega,by omega,by omega⟩,qxH,qxH]
theorem qeL {l:qAq}(h:Bit l)(i:Nat):Bit (l.drop i):=fun x hx=>h x (List.mem_of_mem_drop hx)
theorem qfy {l:qAq}(h:Bit l)(i:Nat):Bit (l.take i):=fun x hx=>h x (qy8 hx)
theorem qiG {n:Int}{b:qAq}(hb:U8s b):chkOf n b≠0∨∃ l:qAq,Bit l∧l.length≤8192∧n=(l.length:Int)∧b=pk l:=by
 by_cases h:chkOf n b=0
 ·obtain ⟨m,rfl,ob⟩:=qtb h
  exact .inr ⟨bl b m,qpY _ _,by rw[qab];exact ob.max,by rw[qab],(qtY hb ob).symm⟩
 ·exact .inl h
theorem qij {l:qAq}(hm:l.length≤8192):chkOf (l.length:Int) (pk l)=0:=qoJ (qiR hm)
theorem qrs {l:qAq}(h:l.length≤8192):(pk l).length≤9223372036854775807:=by rw[qfE];omega
theorem qo9 {l:qAq}(h:l.length≤8192):(pk l).length≤2000:=by rw[qfE];omega
theorem qsI {F:Nat}{n:Int}{xs:qAq}(hF:xs.length<F)(hm:xs.length≤1000000):qaD F n xs n xs=some true:=by
 rw[qhp hF (by omega)];simp
theorem qql {l k:qAq}(hl:Bit l)(hk:Bit k)(h:l.length=k.length)(e:pk l=pk k):l=k:=by
 rw[← qbS hl,← qbS hk,h,e]
def un (n:Nat):qAq:=qxJ n 0++[1]
theorem qhu (n:Nat):(un n).length=n+1:=by simp[un]
theorem qgD (n:Nat):Bit (qxJ n 0):=by intro x hx;left;exact (List.mem_replicate.1 hx).2
theorem qnj:Bit [1]:=by intro x hx;right;simpa using hx
theorem qn9 (n:Nat):Bit (un n):=kw (qgD n) qnj
theorem qwS (n:Nat):pk (qxJ n 0)=qxJ ((n+7)/8) 0:=by
 unfold pk
 rw[qyh]
 apply qyX
 intro k
 by_cases hk:k<(n+7)/8
 ·have hz:∀ i,(qxJ n (0:Int)).getD i 0=0:=by
   intro i
   by_cases h:i<n
   ·simp[qyH,h]
   ·exact qaM (by simp;omega)
  rw[qyM,qzr hk,List.getElem?_replicate,if_pos hk]
  simp only[qyg,byt,hz]
  rfl
 ·rw[qx2 (by simpa using hk),qx2 (by simpa using hk)]
theorem qif {F:Nat}{n w:Nat}{l:qAq}(hn:n<18446744073709551616)(hF:w<F)(hl:Bit l)(hm:l.length≤8192)(hw:w≤10000) :
  vB F (l.length:Int) (pk l) (n:Int) (w:Int)=some (((l++nb n w).length:Int),pk (l++nb n w)):=by
 rw[qwB hn hF (qfF hl) (qiR hm) hw,qbS hl,qxF,qbj]
theorem qt7 {F n:Nat}(hF:20000≤F)(hn:n<8192):qeK F (n:Int)=some (((un n).length:Int),pk (un n)):=by
 unfold qeK
 have e:iquo .u64 (iadd .u64 (n:Int) 7) 8=(((n+7)/8:Nat):Int):=by
  unfold iquo iadd
  rw[zG (n:=(n:Int)+7) (by omega) (by omega),qyG (by omega),zG (by omega) (by omega)]
  omega
 rw[e]
 have hmk:mk 140737488355328 (0:Int) (((n+7)/8:Nat):Int)=some (pk (qxJ n 0)):=by
  unfold mk
  rw[if_pos (by omega),qxH,qwS]
 rw[hmk]
 simp only[qxD]
 rw[yA (by omega)]
 have h:=qif (F:=F) (n:=1) (w:=1) (l:=qxJ n 0) (by decide) (by omega) (qgD n) (by simp;omega) (by decide)
 rw[qyh] at h
 rw[show ((1:Nat):Int)=1 from rfl] at h
 rw[h]
 rfl
def fz:qAq→Option Nat
 | []=>none
 | x::l=>if x=1 then some 0 else (fz l).map (·+1)
theorem qwr (n:Nat)(r:qAq):fz (un n++r)=some n:=by
 induction n with
 | zero=>simp[un,fz]
 | succ n ih =>
  have:un (n+1)++r=0::(un n++r):=by simp[un,List.replicate_succ]
  rw[this,fz,if_neg (by decide),ih];rfl
theorem qq5 {l:qAq}{n:Nat}(h:fz l=some n):n<l.length:=by
 induction l generalizing n with
 | nil=>simp[fz] at h
 | cons x l ih =>
  unfold fz at h
  split at h
  ·simp at h;subst h;simp
  ·cases hf:fz l with
   | none=>rw[hf] at h;simp at h
   | some m=>rw[hf] at h;simp at h;subst h;have:=ih hf;simp;omega
theorem qoB {F:Nat}{m:Int}{l:qAq}(hl:Bit l)(hm:l.length≤90000){i:Nat}(hi:i<l.length):qbb F m (pk l) (i:Int)=some l[i]:=by
 rw[qs3 (qfF hl) (by rw[qfE];omega) (by omega),qoD hl hi]
 simp[qyH,hi]
theorem qtp {F:Nat}{l:qAq}(hl:Bit l)(hm:l.length≤8192)(a:Nat):∀ (k i:Nat),l.length<k+i→i≤l.length→a≤i →
  ja F (l.length:Int) (pk l) (a:Int) k (i:Int)=some (match fz (l.drop i) with | none=>(0,0,false) | some n=>(((i-a+n:Nat):Int),((i+n+1:Nat):Int),true))
 | 0,_,_,_,_=>by omega
 | k+1,i,h,hi,ha=>by
  show qdf F (l.length:Int) (pk l) (a:Int) (ja F (l.length:Int) (pk l) (a:Int) k) (i:Int)=_
  unfold qdf
  by_cases hlt:i<l.length
  ·rw[if_pos (by simp;omega),qoB hl (by omega) hlt,qxI hlt,fz]
   simp only[qxD]
   by_cases h1:l[i]=1
   ·rw[if_pos (by simpa using h1),if_pos h1,qnG ha (by omega),zz (by omega),qn (by omega)]
    rfl
   ·rw[if_neg (by simpa using h1),if_neg h1,qn (by omega),qtp hl hm a k (i+1) (by omega) (by omega) (by omega)]
    cases fz (l.drop (i+1)) with
    | none=>rfl
    | some n =>
     simp only[qyg]
     rw[show i+1-a+n=i-a+(n+1) from by omega,show i+1+n+1=i+(n+1)+1 from by omega]
  ·rw[if_neg (by simp;omega),qxN (by omega)]
   rfl
theorem qq4 {F:Nat}(hF:20000≤F){l:qAq}(hl:Bit l)(hm:l.length≤8192){a:Nat}(ha:a≤l.length) :
  qdT F (l.length:Int) (pk l) (a:Int)=some (match fz (l.drop a) with | none=>(0,0,false) | some n=>((n:Int),((a+n+1:Nat):Int),true)):=by
 unfold qdT
 have:=qtp (F:=F) hl hm a F a (by omega) ha (by omega)
 rw[this]
 cases fz (l.drop a) with
 | none=>rfl
 | some n=>simp only;rw[Nat.sub_self,qyj]
def raOf (m:Int)(b:qAq)(a:Int):Int:=if chkOf m b≠0 then chkOf m b else if a<0∨m<a then 3 else 0
theorem qwU {m a:Int}{b:qAq}(h:chkOf m b≠0):raOf m b a=chkOf m b:=by unfold raOf;rw[if_pos h]
theorem qt6 {l:qAq}{a:Int}(h1:l.length≤8192)(h:¬ (0≤a∧a≤(l.length:Int))):raOf (l.length:Int) (pk l) a=3:=by
 unfold raOf;rw[if_neg (by simp[qij h1]),if_pos (by omega)]
theorem qvM {l:qAq}{a:Nat}(h1:l.length≤8192)(h:a≤l.length):raOf (l.length:Int) (pk l) (a:Int)=0:=by
 unfold raOf;rw[if_neg (by simp[qij h1]),if_neg (by omega)]
theorem qt5 {m a:Int}{b:qAq}(hb:U8s b):raOf m b a≠0∨∃ (l:qAq) (i:Nat),Bit l∧l.length≤8192∧m=(l.length:Int)∧b=pk l∧a=(i:Int)∧i≤l.length:=by
 rcases qiG hb (n:=m) with h | ⟨l,hl,hm,rfl,rfl⟩
 ·left;rw[qwU h];exact h
 ·by_cases h:0≤a∧a≤(l.length:Int)
  ·obtain ⟨i,rfl⟩:=qxK h.1
   exact .inr ⟨l,i,hl,hm,rfl,rfl,rfl,by omega⟩
  ·left;rw[qt6 hm h];decide
theorem qqq {F:Nat}(hF:20000≤F){m a:Int}{b:qAq}(hb:U8s b):qfL F m b a=some (raOf m b a):=by
 unfold qfL raOf
 rw[qiF hF hb]
 simp only[qxD]
 by_cases h1:chkOf m b=0
 ·rw[if_pos (by simpa using h1),if_neg (by simp[h1]),qdn]
  simp only[qxD,qdB,qdA]
  by_cases h:a<0∨m<a
  ·rw[if_pos h,if_pos (by simp;omega)]
  ·rw[if_neg h,if_neg (by simp;omega),h1]
 ·rw[if_neg (by simpa using h1),if_pos h1]
  rfl
theorem qqV {F:Nat}(hF:20000≤F){l k:qAq}(hl:Bit l)(hk:Bit k)(h1:l.length≤8192)(h2:k.length≤8192) :
  qaj F (l.length:Int) (pk l) (k.length:Int) (pk k)=some (((l++k).length:Int),pk (l++k)):=by
 rw[qnk hF (qfF hl) (qfF hk) (qiR h1) (qiR h2),qbS hl,qbS hk,qxF]
theorem qjI {F n:Nat}(hn:n≤100000):∀ (k i:Nat),n<k+i→i≤n →
  vq F (n:Int) k (qxJ i 0,(i:Int))=some (un n)
 | 0,_,_,_=>by omega
 | k+1,i,h,hi=>by
  show qcr F (n:Int) (vq F (n:Int) k) (qxJ i 0) (i:Int)=_
  unfold qcr
  by_cases hlt:i<n
  ·rw[if_pos (by simp;omega),qT (by simp;omega)]
   simp only[qxD]
   have e:iadd .u64 (i:Int) 1=((i+1:Nat):Int):=by unfold iadd;rw[zG (by omega) (by omega)];omega
   rw[e,← qzW]
   exact qjI hn k (i+1) (by omega) (by omega)
  ·rw[if_neg (by simp;omega)]
   obtain rfl:i=n:=by omega
   unfold qd4
   rw[qT (by simp;omega)]
   rfl
theorem qoa {F n:Nat}(hn:n≤100000)(hF:n<F):qep F (n:Int)=some (un n):=by
 unfold qep
 exact qjI hn F 0 (by omega) (by omega)
theorem qjJ {F:Nat}{l:qAq}(hm:l.length≤100000):∀ (k i c:Nat),l.length<k+i→i≤l.length→c≤200000-(l.length-i) →
  vr F l k ((c:Int),(i:Int))=some (match fz (l.drop i) with | none=>(0,-1) | some n=>(((c+n:Nat):Int),((i+n+1:Nat):Int)))
 | 0,_,_,_,_,_=>by omega
 | k+1,i,c,h,hi,hc=>by
  show qcs F l (vr F l k) (c:Int) (i:Int)=_
  unfold qcs
  by_cases hlt:i<l.length
  ·rw[if_pos (by simp;omega),qt,qxE hlt,qxI hlt,fz]
   simp only[qxD]
   by_cases h1:l[i]=1
   ·rw[if_pos (by simpa using h1),if_pos h1,qn (by omega)]
    rfl
   ·have e:iadd .u64 (c:Int) 1=((c+1:Nat):Int):=by unfold iadd;rw[zG (by omega) (by omega)];omega
    rw[if_neg (by simpa using h1),if_neg h1,qn (by omega),e,qjJ hm k (i+1) (c+1) (by omega) (by omega) (by omega)]
    cases fz (l.drop (i+1)) with
    | none=>rfl
    | some n =>
     simp only[qyg]
     rw[show c+1+n=c+(n+1) from by omega,show i+1+n+1=i+(n+1)+1 from by omega]
  ·rw[if_neg (by simp;omega),qxN (by omega)]
   rfl
theorem qi8 {F:Nat}{l:qAq}(hm:l.length≤10000)(hF:20000≤F){a:Nat}(ha:a≤l.length):qcH F l (a:Int)=some (match fz (l.drop a) with | none=>(0,-1) | some n=>((n:Int),((a+n+1:Nat):Int))):=by
 unfold qcH
 have:=qjJ (F:=F) (l:=l) (by omega) F a 0 (by omega) ha (by omega)
 rw[show ((0:Nat):Int)=0 from rfl] at this
 rw[this]
 cases fz (l.drop a) with
 | none=>rfl
 | some n=>simp only;rw[qyj]
def len (x:Nat):Nat:=if x=0 then 0 else x.log2+1
theorem qeW {x k:Nat}:len x≤k↔x<2^k:=by
 unfold len
 by_cases h:x=0
 ·rw[if_pos h,h];simp[qyN]
 ·rw[if_neg h];exact Nat.log2_lt h
theorem qkE {x k:Nat}(h1:x<2^k)(h2:k=0∨2^(k-1)≤x):len x=k:=by
 have h3:=qeW.2 h1
 rcases h2 with rfl | h2
 ·omega
 ·by_cases h4:len x≤k-1
  ·have:=qeW.1 h4;omega
  ·omega
theorem qqf {x:Nat}:x<2^len x:=qeW.1 (qxY _)
theorem qqe {x:Nat}(h:x≠0):2^(len x-1)≤x:=by
 have h1:1≤len x:=by unfold len;rw[if_neg h];omega
 apply Nat.le_of_not_lt
 intro h2
 have:=qeW.2 h2
 omega
theorem qhE {x:Nat}(h:x≠0):1≤len x:=by unfold len;rw[if_neg h];omega
theorem qhF {x k:Nat}(h:2^k≤x):len (x/2^k)+k=len x:=by
 have hp:0<2^k:=qyN (by decide)
 have hx:x≠0:=by omega
 have hd:x/2^k≠0:=by
  intro h0
  rw[Nat.div_eq_zero_iff] at h0
  omega
 symm
 apply qkE
 ·rw[qzp]
  have:=qqf (x:=x/2^k)
  exact (Nat.div_lt_iff_lt_mul hp).1 this
 ·right
  have h1:=qhE hd
  have:=qqe hd
  rw[show len (x/2^k)+k-1=len (x/2^k)-1+k from by omega,qzp]
  exact (Nat.le_div_iff_mul_le hp).1 this
theorem qvz:∀ x:Fin 256,∀ k:Fin 8,yx 0 ((x.val:Nat):Int) ((8*k.val:Nat):Int)=some ((len x.val+8*k.val:Nat):Int):=by decide +kernel
theorem qrj {F x k:Nat}(hx:x<256)(hk:k≤56)(h8:k%8=0):yx F (x:Int) (k:Int)=some ((len x+k:Nat):Int):=by
 have h:=qvz ⟨x,hx⟩ ⟨k/8,by omega⟩
 simp only at h
 rw[show 8*(k/8)=k from by omega] at h
 exact h
theorem qri {F x k:Nat}(hx:x<65536)(hk:k≤48)(h8:k%8=0):yw F (x:Int) (k:Int)=some ((len x+k:Nat):Int):=by
 unfold yw
 by_cases h:256≤x
 ·have e:=qky (n:=x) (k:=8) (by omega)
  rw[show ((8:Nat):Int)=8 from rfl] at e
  have e2:iadd .i64 (k:Int) 8=((k+8:Nat):Int):=by rw[qw (by omega) (by omega)];omega
  rw[if_pos (by simp;omega),e,e2,qrj (by omega) (by omega) (by omega),← qhF (x:=x) (k:=8) (by omega)]
  congr 2;omega
 ·rw[if_neg (by simp;omega),qrj (by omega) (by omega) (by omega)]
theorem qrh {F x k:Nat}(hx:x<4294967296)(hk:k≤32)(h8:k%8=0):yv F (x:Int) (k:Int)=some ((len x+k:Nat):Int):=by
 unfold yv
 by_cases h:65536≤x
 ·have e:=qky (n:=x) (k:=16) (by omega)
  rw[show ((16:Nat):Int)=16 from rfl] at e
  have e2:iadd .i64 (k:Int) 16=((k+16:Nat):Int):=by rw[qw (by omega) (by omega)];omega
  rw[if_pos (by simp;omega),e,e2,qri (by omega) (by omega) (by omega),← qhF (x:=x) (k:=16) (by omega)]
  congr 2;omega
 ·rw[if_neg (by simp;omega),qri (by omega) (by omega) (by omega)]
theorem qkD {F x:Nat}(hx:x<18446744073709551616):yJ F (x:Int)=some ((len x:Nat):Int):=by
 unfold yJ
 by_cases h:4294967296≤x
 ·have e:=qky (n:=x) (k:=32) (by omega)
  rw[show ((32:Nat):Int)=32 from rfl] at e
  have:=qrh (F:=F) (x:=x/2^32) (k:=32) (by omega) (by omega) (by omega)
  rw[show ((32:Nat):Int)=32 from rfl] at this
  rw[if_pos (by simp;omega),e,this,qhF (x:=x) (k:=32) (by omega)]
 ·have:=qrh (F:=F) (x:=x) (k:=0) (by omega) (by omega) (by omega)
  rw[show ((0:Nat):Int)=0 from rfl] at this
  rw[if_neg (by simp;omega),this,qyO]
def lg (n:Nat):Nat:=len (n+1)-1
theorem qrk {n:Nat}:2^lg n≤n+1:=qqe (by omega)
theorem qrl {n:Nat}:n+1<2^(lg n+1):=by
 have h:=qhE (x:=n+1) (by omega)
 unfold lg
 rw[Nat.sub_add_cancel h];exact qqf
theorem qsv {n k:Nat}(h1:2^k≤n+1)(h2:n+1<2^(k+1)):lg n=k:=by
 have:len (n+1)=k+1:=qkE h2 (.inr h1)
 unfold lg;omega
theorem qeM {n:Nat}(h:n≤1099511627776):lg n≤40:=by
 have:len (n+1)≤41:=qeW.2 (by omega)
 unfold lg;omega
theorem qwt {n:Nat}(h:n+1<18446744073709551616):lg n≤63:=by
 have:len (n+1)≤64:=qeW.2 (by rw[two64];exact h)
 unfold lg;omega
theorem qvP {F n:Nat}(h:n+1<18446744073709551616):qe1 F (n:Int)=some ((lg n:Nat):Int):=by
 unfold qe1
 have e:iadd .u64 (n:Int) 1=((n+1:Nat):Int):=by unfold iadd;rw[zG (by omega) (by omega)];omega
 rw[e,qkD (by omega)]
 simp only[qxD]
 have h1:=qhE (x:=n+1) (by omega)
 have h2:len (n+1)≤64:=qeW.2 (by rw[two64];omega)
 rw[yO h1 (by omega)]
 rfl
theorem pow64 {k:Nat}(h:k≤63):2^k≤9223372036854775808:=by
 have:=qx4 (show 0<2 by decide) h
 rwa [show (2:Nat)^63=9223372036854775808 from by decide] at this
theorem qgR {k:Nat}(h:k≤63):ishl .u64 1 (k:Int)=((2^k:Nat):Int):=by
 have:=qio (n:=1) (k:=k) (by omega)
 rw[show ((1:Nat):Int)=1 from rfl] at this
 have hp:=pow64 h
 rw[this,Nat.one_mul,qya (by omega)]
theorem qfJ {a b:Nat}(h:b≤a)(h2:a<18446744073709551616):isub .u64 (a:Int) (b:Int)=((a-b:Nat):Int):=by
 unfold isub;rw[zG (by omega) (by omega)];omega
theorem qhT {a:Nat}(h:1≤a)(h2:a<18446744073709551616):isub .u64 (a:Int) 1=((a-1:Nat):Int):=by
 unfold isub;rw[zG (by omega) (by omega)];omega
theorem qjv {a b:Nat}(h2:a+b<18446744073709551616):iadd .u64 (a:Int) (b:Int)=((a+b:Nat):Int):=by
 unfold iadd;rw[zG (by omega) (by omega)];omega
theorem qfd {a:Nat}(h2:a+1<18446744073709551616):iadd .u64 (a:Int) 1=((a+1:Nat):Int):=by
 unfold iadd;rw[zG (by omega) (by omega)];omega
theorem qwP {F n k:Nat}(hn:n<18446744073709551616)(hk:k≤63):qfN F (n:Int) (k:Int)=some ((n%2^k:Nat):Int):=by
 unfold qfN
 have hp:=pow64 hk
 have hp0:0<2^k:=qyN (by decide)
 have hc:decide ((0:Int)≤(k:Int))=true:=decide_eq_true (by omega)
 rw[hc]
 simp only[chk,if_true,lett]
 rw[qgR hk,qhT (by omega) (by omega)]
 have e:=qhA (k:=.u64) (a:=(n:Int)) (m:=k) (by omega) (by simp only[IntKind.bits];rw[show (2:Int)^64=18446744073709551616 from by decide];omega) (by simp only[IntKind.bits];omega) rfl
 rw[e]
 norm_cast
theorem qqi {n k w:Nat}(h:w≤k):nb (n%2^k) w=nb n w:=by
 induction w with
 | zero=>rfl
 | succ w ih =>
  rw[nb,nb,ih (by omega)]
  congr 2
  have hp:2^k=2^w*2^(k-w):=by rw[← qzp];congr 1;omega
  rw[hp,Nat.mod_mul_right_div_self]
  have hp2:2^(k-w)=2*2^(k-w-1):=by rw[← qzP];congr 1;omega
  rw[hp2,Nat.mod_mul_right_mod]
def ga (n:Nat):qAq:=un (lg n)++nb (n+1) (lg n)
theorem qgF (n:Nat):Bit (ga n):=kw (qn9 _) (qkH _ _)
theorem qnx (n:Nat):(ga n).length=2*lg n+1:=by unfold ga;rw[qxF,qhu,qbj];omega
theorem qjE {F n:Nat}(hF:20000≤F)(hn:n+1<18446744073709551616):j4 F (n:Int)=some (((ga n).length:Int),pk (ga n)):=by
 unfold j4
 have h63:=qwt hn
 rw[qvP hn]
 simp only[qxD]
 rw[zz (by omega),qt7 hF (by omega)]
 simp only[qxD]
 rw[qfd hn,qwP hn h63]
 simp only[qxD]
 have hlt:(n+1)%2^lg n<18446744073709551616:=by have:=Nat.mod_le (n+1) (2^lg n);omega
 rw[qif hlt (by omega) (qn9 _) (by rw[qhu];omega) (by omega),qqi (qxY _)]
 rfl
def numOf (l:qAq)(k a:Nat):Int×Int×Int :=
 if 64≤k then (0,0,3) else if l.length<a+k then (0,0,7) else if 1099511627776<bv ((l.drop a).take k)+2^k-1 then (0,0,3) else (((bv ((l.drop a).take k)+2^k-1:Nat):Int),((a+k:Nat):Int),0)
def fg (l:qAq)(a:Nat):Int×Int×Int:=match fz (l.drop a) with | none=>(0,0,7) | some k=>numOf l k (a+k+1)
theorem qgQ {F a w:Nat}{l:qAq}(hF:100≤F)(hl:Bit l)(hm:l.length≤8192)(ha:a≤l.length)(hw:w≤64) :
  jn F (l.length:Int) (pk l) (a:Int) (w:Int)=some (if a+w≤l.length then (((bv ((l.drop a).take w):Nat):Int),true) else (0,false)):=by
 have:=qvN hF (qfF hl) (qiR hm) ha hw
 rwa [qbS hl] at this
theorem ql7 {l:qAq}{a:Nat}:(fg l a).2.2≠0∨∃ n q:Nat,fg l a=((n:Int),(q:Int),0)∧n≤1099511627776∧q≤l.length:=by
 unfold fg
 cases hf:fz (l.drop a) with
 | none=>left;simp
 | some k =>
  simp only
  unfold numOf
  by_cases h1:64≤k
  ·left;rw[if_pos h1];decide
  ·rw[if_neg h1]
   by_cases h2:l.length<a+k+1+k
   ·left;rw[if_pos h2];decide
   ·rw[if_neg h2]
    by_cases h3:1099511627776<bv ((l.drop (a+k+1)).take k)+2^k-1
    ·left;rw[if_pos h3];decide
    ·right;rw[if_neg h3];exact ⟨_,_,rfl,by omega,by omega⟩
theorem qqj {F k a:Nat}{l:qAq}(hF:20000≤F)(hl:Bit l)(hm:l.length≤8192)(ha:a≤l.length) :
  (if decide ((64:Int)≤(k:Int)) then some ((0:Int),(0:Int),(3:Int)) else ((jn F (l.length:Int) (pk l) (a:Int) (iconv .i64 (k:Int))).bind fun x10=>(if (!x10.2) then some (0,0,7) else (chk (decide ((0:Int)≤(k:Int))) ((lett (iadd .u64 x10.1 (isub .u64 (ishl .u64 1 (k:Int)) 1)) fun x16=>(if (decide (1099511627776<x16)) then some (0,0,3) else some (x16,iadd .i64 (a:Int) (iconv .i64 (k:Int)),0))))))))=some (numOf l k a):=by
 unfold numOf
 by_cases h1:64≤k
 ·rw[if_pos (by simp;omega),if_pos h1]
 ·rw[if_neg (by simp;omega),if_neg h1,yA (by omega),qgQ (by omega) hl hm ha (by omega)]
  simp only[qxD]
  by_cases h2:a+k≤l.length
  ·rw[if_pos h2,if_neg (show ¬ l.length<a+k by omega)]
   have hc:decide ((0:Int)≤(k:Int))=true:=decide_eq_true (by omega)
   simp only[qys,qxP,if_false,hc,chk,if_true,lett]
   have hb:=qkj (qfy (qeL hl a) k)
   rw[qx1,qx9,qy9 (by omega)] at hb
   have hp:=pow64 (k:=k) (by omega)
   have hp0:0<2^k:=qyN (by decide)
   rw[qgR (by omega),qhT (by omega) (by omega),qjv (by omega),vg (by omega),show bv ((l.drop a).take k)+(2^k-1)=bv ((l.drop a).take k)+2^k-1 from by omega]
   by_cases h3:1099511627776<bv ((l.drop a).take k)+2^k-1
   ·rw[if_pos h3,if_pos (by simp only[decide_eq_true_eq];omega)]
   ·rw[if_neg h3,if_neg (by simp only[decide_eq_true_eq];omega)]
  ·rw[if_neg h2,if_pos (show l.length<a+k by omega)]
   rfl
theorem qiK {F a:Nat}{l:qAq}(hF:20000≤F)(hl:Bit l)(hm:l.length≤8192)(ha:a≤l.length):jr F (l.length:Int) (pk l) (a:Int)=some (fg l a):=by
 unfold jr zT qcE
 rw[qq4 hF hl hm ha]
 unfold fg
 cases hf:fz (l.drop a) with
 | none=>rfl
 | some k =>
  have hk:=qq5 hf
  rw[qx9] at hk
  simp only[qxD,qys,qxP,if_false,bne_self_eq_false]
  rw[qqj hF hl hm (by omega)]
  rfl
def rd (f:qAq→Nat→Int×Int×Int)(m:Int)(b:qAq)(a:Int):Int×Int×Int:=if raOf m b a≠0 then (0,0,raOf m b a) else f (bl b m.toNat) a.toNat
theorem qtN {n:Nat}(hn:n≤1099511627776)(p r:qAq):numOf (p++nb (n+1) (lg n)++r) (lg n) p.length=((n:Int),((p.length+lg n:Nat):Int),0):=by
 have h40:=qeM hn
 have h1:=qrk (n:=n)
 have h2:=qrl (n:=n)
 have hp0:0<2^lg n:=qyN (by decide)
 have hbv:bv (((p++nb (n+1) (lg n)++r).drop p.length).take (lg n))=n+1-2^lg n:=by
  rw[qxG,qzJ,qzw (qbj _ _),qkk]
  rw[qyS] at h2
  rw[Nat.mod_eq_sub_mod h1,qya (by omega)]
 unfold numOf
 rw[hbv,if_neg (by omega),if_neg (by rw[qxF,qxF,qbj];omega),if_neg (by omega),show n+1-2^lg n+2^lg n-1=n from by omega]
theorem qxi {n:Nat}(hn:n≤1099511627776)(p r:qAq):fg (p++ga n++r) p.length=((n:Int),((p.length+(ga n).length:Nat):Int),0):=by
 unfold fg
 have h0:(p++ga n++r).drop p.length=un (lg n)++(nb (n+1) (lg n)++r):=by
  rw[qxG,qzJ];unfold ga;rw[qxG]
 rw[h0,qwr]
 simp only
 have:=qtN hn (p++un (lg n)) r
 rw[qxF,qhu] at this
 have e:p++ga n++r=p++un (lg n)++nb (n+1) (lg n)++r:=by unfold ga;simp[qxG]
 rw[e,show p.length+lg n+1=p.length+(lg n+1) from by omega,this,qnx,show p.length+(lg n+1)+lg n=p.length+(2*lg n+1) from by omega]
theorem qoC {F:Nat}:∀ (k n:Nat) (t:qAq),len n<k→n<18446744073709551616→t.length+len n≤10000→qba F k ((n:Int),t)=some (nb n (len n)++t)
 | 0,_,_,h,_,_=>by omega
 | k+1,n,t,h,hn,ht=>by
  show qeq F (qba F k) (n:Int) t=_
  unfold qeq
  by_cases h0:n=0
  ·subst h0
   rw[if_neg (by simp)]
   simp[qf5,len,nb]
  ·rw[if_pos (by simp;omega),qnF,yA (by omega),qT (by simp;omega)]
   simp only[qxD]
   have hl:len n=len (n/2)+1:=by
    by_cases h1:n=1
    ·subst h1;rfl
    ·have:=qhF (x:=n) (k:=1) (by omega);rw[Nat.pow_one] at this;omega
   rw[qrf hn,List.singleton_append,qoC k (n/2) _ (by omega) (by omega) (by simp;omega),hl,qnM]
   simp
theorem qsh {F n:Nat}(hF:20000≤F)(hn:n<18446744073709551616):qgz F (n:Int)=some (nb n (len n)):=by
 unfold qgz
 have h64:len n≤64:=qeW.2 (by rw[two64];exact hn)
 rw[qoC F n [] (by omega) hn (by simp;omega),qyv]
theorem qwR {n:Nat}:nb (n+1) (len (n+1))=1::nb (n+1) (lg n):=by
 have h1:=qhE (x:=n+1) (by omega)
 have h2:=qrk (n:=n)
 have h3:=qrl (n:=n)
 have e:len (n+1)=lg n+1:=by unfold lg;omega
 rw[e,nb]
 congr 1
 have hd:(n+1)/2^lg n=1:=by
  rw[qyS] at h3
  exact Nat.div_eq_of_lt_le (by omega) (by omega)
 rw[hd];rfl
theorem qjB {F:Nat}{m:qAq}(hm:m.length≤1000)(h1:1≤m.length):∀ (k i:Nat),m.length<k+i→1≤i→i≤m.length →
  vk F m k (qxJ (i-1) 0,(i:Int))=some (qxJ (m.length-1) 0++m)
 | 0,_,_,_,_=>by omega
 | k+1,i,h,hi1,hi=>by
  show qb9 F m (vk F m k) (qxJ (i-1) 0) (i:Int)=_
  unfold qb9
  by_cases hlt:i<m.length
  ·rw[if_pos (by simp;omega),qT (by simp;omega),← qzW,qn (by omega)]
   simp only[qxD]
   have:=qjB (F:=F) hm h1 k (i+1) (by omega) (by omega) (by omega)
   rw[qx6] at this
   rw[show i-1+1=i from by omega]
   exact this
  ·rw[if_neg (by simp;omega)]
   obtain rfl:i=m.length:=by omega
   unfold qdY
   rw[qT (by simp;omega)]
   rfl
theorem qgG {F n:Nat}(hF:20000≤F)(hn:n+1<18446744073709551616):kd F (n:Int)=some (ga n):=by
 unfold kd
 have h64:=qwt hn
 rw[qfd hn,qsh hF (by omega),qwR]
 simp only[qxD]
 have:=qjB (F:=F) (m:=1::nb (n+1) (lg n)) (by simp[qbj];omega) (by simp) F 1 (by simp[qbj];omega) (by omega) (by simp)
 rw[Nat.sub_self,List.replicate_zero] at this
 rw[show ((1:Nat):Int)=1 from rfl] at this
 rw[this]
 simp[ga,un,qbj]
theorem qpe {F k a:Nat}{l:qAq}(hF:20000≤F)(hl:Bit l)(hm:l.length≤8192)(ha:a≤l.length)(hk:k≤100000):qe0 F l (a:Int) (k:Int)=some (numOf l k a):=by
 unfold qe0 numOf
 by_cases h1:64≤k
 ·rw[if_pos (by simp;omega),if_pos h1]
 ·rw[if_neg (by simp;omega),if_neg h1,yA (by omega),vg (by omega)]
  by_cases h2:l.length<a+k
  ·rw[if_pos (by simp;omega),if_pos h2]
  ·rw[if_neg (by simp;omega),if_neg h2,qi3 (by omega) (by omega)]
   simp only[qxD]
   have hd:(l.take (a+k)).drop a=(l.drop a).take k:=by rw[List.drop_take,Nat.add_sub_cancel_left]
   have hlen:((l.drop a).take k).length=k:=by simp;omega
   have hb:=qkj (qfy (qeL hl a) k)
   rw[hlen] at hb
   have hp:=pow64 (k:=k) (by omega)
   have hp0:0<2^k:=qyN (by decide)
   rw[hd,qT (by simp;omega)]
   simp only[qxD]
   rw[qsi (by omega) (kw qnj (qfy (qeL hl a) k)) (by simp;omega),qki,hlen]
   simp only[qxD]
   rw[show bv [1]=1 from rfl,Nat.one_mul,qhT (by omega) (by omega),qy5 (2^k)]
   by_cases h3:1099511627776<bv ((l.drop a).take k)+2^k-1
   ·rw[if_pos h3,if_pos (by simp only[decide_eq_true_eq];omega)]
   ·rw[if_neg h3,if_neg (by simp only[decide_eq_true_eq];omega)]
theorem qgH {F a:Nat}{l:qAq}(hF:20000≤F)(hl:Bit l)(hm:l.length≤8192)(ha:a≤l.length):kq F l (a:Int)=some (fg l a):=by
 unfold kq
 rw[qi8 (by omega) hF ha]
 unfold fg
 cases hf:fz (l.drop a) with
 | none=>rfl
 | some k =>
  have hk:=qq5 hf
  rw[qx9] at hk
  simp only[qxD]
  rw[if_neg (by simp;omega),qpe hF hl hm (by omega) (by omega)]
  rfl
def sh (m:Nat):Nat:=len (m-1)
def dd (m:Nat):Nat:=2^sh m-m
theorem qwy {m:Nat}(h:1≤m):m≤2^sh m:=by have:=qqf (x:=m-1);unfold sh;omega
theorem qi0 {m:Nat}(h:m≤9223372036854775808):sh m≤63:=qeW.2 (by rw[show (2:Nat)^63=9223372036854775808 from by decide];omega)
theorem qxs {m:Nat}(h:2≤m):1≤sh m∧2^(sh m-1)<m:=by
 have h1:=qhE (x:=m-1) (by omega)
 have h2:=qqe (x:=m-1) (by omega)
 unfold sh;omega
theorem qxC:sh 1=0:=rfl
theorem qhc {m:Nat}(h:1≤m):m+dd m=2^sh m:=by have:=qwy h;unfold dd;omega
theorem qiH {m:Nat}(h:1≤m)(hd:0<dd m):1≤sh m∧dd m<2^(sh m-1):=by
 by_cases h2:2≤m
 ·obtain ⟨h3,h4⟩:=qxs h2
  have h5:=qhc h
  have h6:2^sh m=2*2^(sh m-1):=by rw[← qzP];congr 1;omega
  omega
 ·obtain rfl:m=1:=by omega
  simp[dd,qxC] at hd
theorem qhr {F m:Nat}(h:1≤m)(h2:m≤9223372036854775808):qb0 F (m:Int)=some ((sh m:Int),(dd m:Int)):=by
 unfold qb0
 have h63:=qi0 h2
 have hl:=qwy h
 rw[qhT h (by omega),qkD (by omega)]
 simp only[qxD]
 have hc:decide ((0:Int)≤((len (m-1):Nat):Int))=true:=decide_eq_true (by omega)
 rw[hc]
 simp only[chk,if_true]
 have hp:=pow64 h63
 have e:=qgR h63
 unfold sh at e hl hp
 rw[e,qfJ hl (by omega)]
 rfl
def le (n m:Nat):qAq:=if n<dd m then nb n (sh m-1) else nb (n+dd m) (sh m)
theorem qwO (n m:Nat):Bit (le n m):=by unfold le;split <;> exact qkH _ _
theorem qqc (n m:Nat):(le n m).length=if n<dd m then sh m-1 else sh m:=by unfold le;split <;> exact qbj _ _
theorem qoA {F n m:Nat}{l:qAq}(hF:20000≤F)(hl:Bit l)(hlm:l.length≤8192)(hm:m≤9223372036854775808)(hn:n<m) :
  qbB F (l.length:Int) (pk l) (n:Int) (m:Int)=some (((l++le n m).length:Int),pk (l++le n m)):=by
 unfold qbB le
 have h63:=qi0 hm
 have ha:=qhc (m:=m) (by omega)
 have hp:=pow64 h63
 rw[qhr (by omega) hm]
 simp only[qxD]
 by_cases h:n<dd m
 ·obtain ⟨h1,h2⟩:=qiH (m:=m) (by omega) (by omega)
  rw[if_pos (by simp;omega),if_pos h,yO h1 (by omega),qif (by omega) (by omega) hl hlm (by omega)]
  rfl
 ·rw[if_neg (by simp;omega),if_neg h,qjv (by omega),qif (by omega) (by omega) hl hlm (by omega)]
  rfl
def flR (l:qAq)(a m:Nat):Option (Nat×Nat):=if a+sh m≤l.length then some (bv ((l.drop a).take (sh m))-dd m,a+sh m) else none
def flOf (l:qAq)(a m:Nat):Option (Nat×Nat) :=
 if 0<dd m then (if a+(sh m-1)≤l.length then (if bv ((l.drop a).take (sh m-1))<dd m then some (bv ((l.drop a).take (sh m-1)),a+(sh m-1)) else flR l a m) else none) else flR l a m
theorem qi7 {l:qAq}(hl:Bit l){a s:Nat}(hs:1≤s)(h:a+s≤l.length):∃ x,x<2∧bv ((l.drop a).take s)=2*bv ((l.drop a).take (s-1))+x:=by
 obtain ⟨x,hx,hx2⟩:=qqU (qeL hl a) (i:=s-1) (by simp;omega)
 refine ⟨x,hx2,?_⟩
 have:(l.drop a).take s=(l.drop a).take (s-1)++[(x:Int)]:=by
  have h1:s=(s-1)+1:=by omega
  conv=>lhs;rw[h1,qzb,hx]
  rfl
 rw[this,qki]
 simp[bv]
 omega
theorem qtl {l:qAq}(hl:Bit l){a m n q:Nat}(hm:1≤m)(h:flOf l a m=some (n,q)):n<m∧q≤l.length:=by
 have hR:flR l a m=some (n,q)→n<m∧q≤l.length:=by
  intro h
  unfold flR at h
  split at h
  ·rename_i h1
   simp only[qxR,qzc] at h
   have:=qkj (qfy (qeL hl a) (sh m))
   rw[qx1,qx9,qy9 (by omega)] at this
   have:=qhc hm
   omega
  ·simp at h
 unfold flOf at h
 split at h
 ·rename_i h0
  split at h
  ·split at h
   ·simp only[qxR,qzc] at h
    have h1:=qiH hm h0
    have h2:=qhc hm
    have h6:2^sh m=2*2^(sh m-1):=by rw[← qzP];congr 1;omega
    omega
   ·exact hR h
  ·simp at h
 ·exact hR h
theorem qnt {F a m:Nat}{l:qAq}(hF:20000≤F)(hl:Bit l)(hlm:l.length≤8192)(ha:a≤l.length)(hm1:1≤m)(hm:m≤9223372036854775808) :
  match flOf l a m with
  | none=>∃ x y,zp F (l.length:Int) (pk l) (a:Int) (m:Int)=some (x,y,false)
  | some p=>zp F (l.length:Int) (pk l) (a:Int) (m:Int)=some ((p.1:Int),(p.2:Int),true):=by
 have h63:=qi0 hm
 have hadd:=qhc hm1
 have hp:=pow64 h63
 have hj1:(0<dd m→¬ bv ((l.drop a).take (sh m-1))<dd m)→match flR l a m with
   | none=>∃ x y,zv F (l.length:Int) (pk l) (a:Int) ((sh m:Int),(dd m:Int))=some (x,y,false)
   | some p=>zv F (l.length:Int) (pk l) (a:Int) ((sh m:Int),(dd m:Int))=some ((p.1:Int),(p.2:Int),true):=by
  intro hge
  unfold flR zv
  simp only
  rw[qgQ (by omega) hl hlm ha (by omega)]
  simp only[qxD]
  by_cases h:a+sh m≤l.length
  ·rw[if_pos h,if_pos h]
   simp only
   have hb:=qkj (qfy (qeL hl a) (sh m))
   rw[qx1,qx9,qy9 (by omega)] at hb
   have hdb:dd m≤bv ((l.drop a).take (sh m)):=by
    by_cases h0:0<dd m
    ·obtain ⟨h1,_⟩:=qiH hm1 h0
     obtain ⟨x,_,hx⟩:=qi7 hl h1 h
     have:=hge h0
     omega
    ·omega
   rw[qfJ hdb (by omega),vg (by omega)]
  ·rw[if_neg h,if_neg h]
   exact ⟨_,_,rfl⟩
 by_cases h0:0<dd m
 ·obtain ⟨h1,h2⟩:=qiH hm1 h0
  by_cases h3:a+(sh m-1)≤l.length
  ·by_cases h4:bv ((l.drop a).take (sh m-1))<dd m
   ·have e:flOf l a m=some (bv ((l.drop a).take (sh m-1)),a+(sh m-1)):=by unfold flOf;rw[if_pos h0,if_pos h3,if_pos h4]
    rw[e]
    unfold zp
    rw[qhr hm1 hm]
    simp only[qxD]
    rw[if_pos (by simp;omega),yO h1 (by omega),qgQ (by omega) hl hlm ha (by omega),if_pos h3]
    simp only[qxD,qys,qxP,if_false]
    rw[if_pos (by simp;omega),vg (by omega),yO (by omega) (by omega),show a+sh m-1=a+(sh m-1) from by omega]
   ·have e:flOf l a m=flR l a m:=by unfold flOf;rw[if_pos h0,if_pos h3,if_neg h4]
    have e2:zp F (l.length:Int) (pk l) (a:Int) (m:Int)=zv F (l.length:Int) (pk l) (a:Int) ((sh m:Int),(dd m:Int)):=by
     unfold zp
     rw[qhr hm1 hm]
     simp only[qxD]
     rw[if_pos (by simp;omega),yO h1 (by omega),qgQ (by omega) hl hlm ha (by omega),if_pos h3]
     simp only[qxD,qys,qxP,if_false]
     rw[if_neg (by simp;omega)]
    rw[e,e2]
    exact hj1 (fun _=>h4)
  ·have e:flOf l a m=none:=by unfold flOf;rw[if_pos h0,if_neg h3]
   rw[e]
   unfold zp
   rw[qhr hm1 hm]
   simp only[qxD]
   rw[if_pos (by simp;omega),yO h1 (by omega),qgQ (by omega) hl hlm ha (by omega),if_neg h3]
   exact ⟨_,_,rfl⟩
 ·have e:flOf l a m=flR l a m:=by unfold flOf;rw[if_neg h0]
  have e2:zp F (l.length:Int) (pk l) (a:Int) (m:Int)=zv F (l.length:Int) (pk l) (a:Int) ((sh m:Int),(dd m:Int)):=by
   unfold zp
   rw[qhr hm1 hm]
   simp only[qxD]
   rw[if_neg (by simp;omega)]
  rw[e,e2]
  exact hj1 (fun h=>absurd h h0)
theorem qxj {n m:Nat}(hn:n<m)(p r:qAq):flOf (p++le n m++r) p.length m=some (n,p.length+(le n m).length):=by
 have hd:(p++le n m++r).drop p.length=le n m++r:=by rw[qxG,qzJ]
 have hll:=qqc n m
 have hadd:=qhc (m:=m) (by omega)
 have hL:(p++le n m++r).length=p.length+(le n m).length+r.length:=by simp;omega
 unfold flOf flR
 rw[hd,hL,hll]
 by_cases h:n<dd m
 ·obtain ⟨h1,h2⟩:=qiH (m:=m) (by omega) (by omega)
  have e:bv ((le n m++r).take (sh m-1))=n:=by
   unfold le
   rw[if_pos h,qzw (qbj _ _),qkk,qya (by omega)]
  rw[if_pos h,if_pos (by omega),if_pos (by omega),e,if_pos h]
 ·have e:bv ((le n m++r).take (sh m))=n+dd m:=by
   unfold le
   rw[if_neg h,qzw (qbj _ _),qkk,qya (by omega)]
  rw[if_neg h]
  by_cases h0:0<dd m
  ·obtain ⟨h1,h2⟩:=qiH (m:=m) (by omega) h0
   have e2:bv ((le n m++r).take (sh m-1))=(n+dd m)/2:=by
    unfold le
    rw[if_neg h]
    have hs:nb (n+dd m) (sh m)=nb ((n+dd m)/2) (sh m-1)++[((((n+dd m)%2:Nat)):Int)]:=by
     have:=qnM (n+dd m) (sh m-1)
     rwa [show sh m-1+1=sh m from by omega] at this
    have h6:2^sh m=2*2^(sh m-1):=by rw[← qzP];congr 1;omega
    rw[hs,qxG,qzw (qbj _ _),qkk,qya (by omega)]
   rw[if_pos h0,if_pos (by omega),e2,if_neg (by omega),if_pos (by omega),e,qx6]
  ·rw[if_neg h0,if_pos (by omega),e,qx6]
theorem qrT {k m:Nat}(hk:k≤63)(hm:1≤m):decide (ishl .u64 1 (k:Int)<(m:Int))=decide (k<sh m):=by
 rw[qgR hk]
 congr 1
 rw[eq_iff_iff]
 have:=qeW (x:=m-1) (k:=k)
 unfold sh
 omega
theorem qjC {F n m:Nat}(hF:20000≤F)(hm1:1≤m)(hm:m≤9223372036854775808)(hn:n<m):∀ (k i:Nat),sh m<k+i→i≤sh m →
  vl F (n:Int) (m:Int) k (i:Int)=some (le n m)
 | 0,_,_,_=>by omega
 | k+1,i,h,hi=>by
  show qcb F (n:Int) (m:Int) (vl F (n:Int) (m:Int) k) (i:Int)=_
  unfold qcb
  have h63:=qi0 hm
  have hadd:=qhc hm1
  have hp:=pow64 h63
  have hc:decide ((0:Int)≤(i:Int))=true:=decide_eq_true (by omega)
  rw[hc]
  simp only[chk,if_true]
  rw[qrT (by omega) hm1]
  by_cases hlt:i<sh m
  ·rw[if_pos (by simpa using hlt),qn (by omega)]
   exact qjC hF hm1 hm hn k (i+1) (by omega) (by omega)
  ·rw[if_neg (by simpa using hlt)]
   obtain rfl:i=sh m:=by omega
   unfold qdZ le
   rw[hc]
   simp only[chk,if_true]
   rw[qgR h63,qfJ (by omega) (by omega),show 2^sh m-m=dd m from rfl]
   by_cases hd:n<dd m
   ·obtain ⟨h1,h2⟩:=qiH (m:=m) (by omega) (by omega)
    rw[if_pos (by simp;omega),if_pos hd,yO h1 (by omega),qiq (by omega) (by omega) (by omega)]
    rfl
   ·rw[if_neg (by simp;omega),if_neg hd,qjv (by omega),qiq (by omega) (by omega) (by omega)]
    rfl
theorem qnH {F n m:Nat}(hF:20000≤F)(hm:m≤9223372036854775808)(hn:n<m):qej F (n:Int) (m:Int)=some (le n m):=by
 unfold qej
 have h63:=qi0 hm
 exact qjC hF (by omega) hm hn F 0 (by omega) (by omega)
def lrI (p:Option (Nat×Nat)):Int×Int:=match p with | none=>(0,-1) | some p=>((p.1:Int),(p.2:Int))
theorem qjD {F a m:Nat}{l:qAq}(hl:Bit l)(hlm:l.length≤8192)(hm1:1≤m)(hm:m≤9223372036854775808):∀ (k i:Nat),sh m<k+i→i≤sh m→a+i≤l.length →
  (i=sh m→0<dd m→¬ bv ((l.drop a).take (sh m-1))<dd m) →
  vm F l (a:Int) (m:Int) (sh m:Int) k (((bv ((l.drop a).take i):Nat):Int),(i:Int))=some (lrI (flOf l a m))
 | 0,_,_,_,_,_=>by omega
 | k+1,i,h,hi,hai,hge=>by
  show qcc F l (a:Int) (m:Int) (sh m:Int) (vm F l (a:Int) (m:Int) (sh m:Int) k) ((bv ((l.drop a).take i):Nat):Int) (i:Int)=_
  unfold qcc
  have h63:=qi0 hm
  have hadd:=qhc hm1
  have hp:=pow64 h63
  have hb:=qkj (qfy (qeL hl a) i)
  rw[qx1,qx9,qy9 (by omega)] at hb
  rw[if_pos (by simp;omega),qgR h63,qfJ (by omega) (by omega),show 2^sh m-m=dd m from rfl,qy (by omega) (by omega)]
  by_cases h1:i+1=sh m∧bv ((l.drop a).take i)<dd m
  ·rw[if_pos (by simp;omega),vg (by omega)]
   have e:sh m-1=i:=by omega
   unfold flOf
   rw[if_pos (by omega),e,if_pos hai,if_pos h1.2]
   rfl
  ·rw[if_neg (by simp;omega)]
   by_cases h2:i=sh m
   ·rw[if_pos (by simp;omega)]
    simp only[lett]
    have hdb:dd m≤bv ((l.drop a).take i):=by
     by_cases h0:0<dd m
     ·obtain ⟨h3,_⟩:=qiH hm1 h0
      obtain ⟨x,_,hx⟩:=qi7 hl (a:=a) (s:=i) (by omega) (by omega)
      have:=hge h2 h0
      rw[← h2] at this
      omega
     ·omega
    have hp2:2^i=2^sh m:=by rw[h2]
    rw[qfJ hdb (by omega),vg (by omega)]
    unfold flOf flR
    rw[← h2,if_pos hai]
    by_cases h0:0<dd m
    ·have:=hge h2 h0
     rw[← h2] at this
     rw[if_pos h0,if_pos (by omega),if_neg this]
     rfl
    ·rw[if_neg h0];rfl
   ·rw[if_neg (by simp;omega),vg (by omega)]
    by_cases h3:l.length≤a+i
    ·rw[if_pos (by simp;omega)]
     unfold flOf flR
     have hR:¬ a+sh m≤l.length:=by omega
     rw[if_neg hR]
     by_cases h0:0<dd m
     ·rw[if_pos h0]
      by_cases h4:a+(sh m-1)≤l.length
      ·have e:sh m-1=i:=by omega
       rw[if_pos h4,e,if_neg (by omega)];rfl
      ·rw[if_neg h4];rfl
     ·rw[if_neg h0];rfl
    ·rw[if_neg (by simp;omega),qt]
     obtain ⟨x,hx,hx2⟩:=qqU hl (i:=a+i) (by omega)
     rw[hx]
     simp only[qxD,lett]
     have hpi:2^(i+1)≤2^sh m:=qx4 (by decide) (by omega)
     rw[qyS] at hpi
     have ht:(l.drop a).take (i+1)=(l.drop a).take i++[(x:Int)]:=by
      rw[qzb,qyt,hx];rfl
     have hbn:bv ((l.drop a).take (i+1))=2*bv ((l.drop a).take i)+x:=by
      rw[ht,qki];simp[bv];omega
     have e2:imul .u64 2 ((bv ((l.drop a).take i):Nat):Int)=((2*bv ((l.drop a).take i):Nat):Int):=by
      unfold imul;rw[zG (by omega) (by omega)];omega
     rw[e2,zz (by omega),qjv (by omega),← hbn,qn (by omega)]
     refine qjD hl hlm hm1 hm k (i+1) (by omega) (by omega) (by omega) ?_
     intro h5 h6
     rw[← h5,qx6]
     omega
theorem qnI {F a m:Nat}{l:qAq}(hF:20000≤F)(hl:Bit l)(hlm:l.length≤8192)(ha:a≤l.length)(hm1:1≤m)(hm:m≤9223372036854775808) :
  qek F l (a:Int) (m:Int)=some (lrI (flOf l a m)):=by
 unfold qek
 have h63:=qi0 hm
 have key:∀ (k i:Nat),sh m<k+i→i≤sh m→vn F l (a:Int) (m:Int) k (i:Int)=some (lrI (flOf l a m)):=by
  intro k
  induction k with
  | zero=>intro i h1 h2;omega
  | succ k ih =>
   intro i h1 h2
   show qcd F l (a:Int) (m:Int) (vn F l (a:Int) (m:Int) k) (i:Int)=_
   unfold qcd
   have hc:decide ((0:Int)≤(i:Int))=true:=decide_eq_true (by omega)
   rw[hc]
   simp only[chk,if_true]
   rw[qrT (by omega) hm1]
   by_cases hlt:i<sh m
   ·rw[if_pos (by simpa using hlt),qn (by omega)]
    exact ih (i+1) (by omega) (by omega)
   ·rw[if_neg (by simpa using hlt)]
    obtain rfl:i=sh m:=by omega
    unfold qd0
    rw[hc]
    simp only[chk,if_true]
    have:=qjD (F:=F) (a:=a) hl hlm hm1 hm F 0 (by omega) (by omega) (by omega) (by
     intro h5 h6
     have:=qiH hm1 h6
     omega)
    rw[List.take_zero] at this
    exact this
 exact key F 0 (by omega) (by omega)
def ok3 (l:qAq):Int×qAq×Int:=((l.length:Int),pk l,0)
theorem qw9 {a b:Nat}:irem (a:Int) (b:Int)=((a%b:Nat):Int):=by
 unfold irem;rw[qzk (by omega)];norm_cast
theorem qw8 {a b:Nat}(h:a*b<18446744073709551616):imul .u64 (a:Int) (b:Int)=((a*b:Nat):Int):=by
 unfold imul
 rw[← qy1]
 generalize a*b=q at h
 exact zG (by omega) (by omega)
def en (p:Option (Nat×Nat)):Int×Int×Int:=match p with
 | none=>(0,0,7)
 | some p=>if 1099511627776<p.1 then (0,0,3) else ((p.1:Int),(p.2:Int),0)
theorem qsl {F n q:Nat}:qdM F (n:Int) (q:Int) true=some (en (some (n,q))):=by
 unfold qdM en
 rw[if_neg (by simp)]
 by_cases h:1099511627776<n
 ·simp only;rw[if_pos (by simp;omega),if_pos h]
 ·simp only;rw[if_neg (by simp;omega),if_neg h]
def zh (n k:Nat):Nat:=lg n/k
def zf (n k:Nat):Nat:=2^(zh n k*k)
def zt (n k:Nat):Nat:=2^(zh n k*k+k)
def ze (n k:Nat):qAq:=un (zh n k)++le (n+1-zf n k) (zt n k-zf n k)
theorem qqS (n k:Nat):Bit (ze n k):=kw (qn9 _) (qwO _ _)
theorem qr9 (n k:Nat):zf n k≤n+1:=by
 have h:zh n k*k≤lg n:=qz0 _ _
 exact qy3 (qx4 (by decide) h) qrk
theorem qsb {n k:Nat}(hk:1≤k):n+1<zt n k:=by
 have h:lg n+1≤zh n k*k+k:=by
  have:=Nat.lt_mul_div_succ (lg n) hk
  unfold zh
  rw[Nat.mul_add,Nat.mul_one,qzi] at this
  omega
 exact qzu qrl (qx4 (by decide) h)
theorem qmK {n k:Nat}(hn:n≤1099511627776)(hk2:k≤16):zh n k*k≤40∧zt n k≤72057594037927936:=by
 have h:zh n k*k≤lg n:=qz0 _ _
 have h40:=qeM hn
 refine ⟨by omega,?_⟩
 have:zt n k≤2^56:=qx4 (by decide) (by omega)
 rwa [show (2:Nat)^56=72057594037927936 from by decide] at this
def Zk (k:Int):Prop:=1≤k∧k≤16
instance zkDec (k:Int):Decidable (Zk k):=inferInstanceAs (Decidable (_∧_))
theorem qxe {k:Int}(h:Zk k):∃ j:Nat,k=j∧1≤j∧j≤16:=by
 obtain ⟨j,rfl⟩:=qxK (show 0≤k by have:=h.1;omega)
 exact ⟨j,rfl,by have:=h.1;omega,by have:=h.2;omega⟩
theorem qvU {F n k:Nat}(hn:n≤1099511627776)(hk:1≤k)(hk2:k≤16):qey F (n:Int) (k:Int)=some ((zh n k:Int),(zf n k:Int),(zt n k:Int)):=by
 unfold qey
 obtain ⟨h40,h56⟩:=qmK hn hk2
 have hlen:len (n+1)=lg n+1:=by have:=qhE (x:=n+1) (by omega);unfold lg;omega
 have hl40:=qeM hn
 have hzl:zh n k≤lg n:=qyT _ _
 have hc0:((k:Int) != 0)=true:=by rw[bne_iff_ne];omega
 rw[qfd (by omega),qkD (by omega),hlen]
 simp only[qxD]
 rw[yO (by omega) (by omega),qx6]
 have e1:iquo .i64 (lg n:Int) (k:Int)=((zh n k:Nat):Int):=by
  unfold iquo zh
  rw[qyG (by omega),← Int.natCast_ediv]
  unfold zh at hzl
  generalize lg n/k=q at hzl
  exact qX (by omega) (by omega)
 have e2:imul .i64 ((zh n k:Nat):Int) (k:Int)=((zh n k*k:Nat):Int):=by
  unfold imul
  rw[← qy1]
  generalize zh n k*k=q at h40
  exact qX (by omega) (by omega)
 rw[e1,e2,vg (by omega),hc0]
 have c1:decide ((0:Int)≤((zh n k*k:Nat):Int))=true:=decide_eq_true (qz5 _)
 have c2:decide ((0:Int)≤((zh n k*k+k:Nat):Int))=true:=decide_eq_true (qz5 _)
 rw[c1,c2]
 simp only[chk,if_true]
 rw[qgR (by omega),qgR (by omega)]
 rfl
def gz (n k:Int):Int×qAq×Int:=if Zk k∧n≤1099511627776 then ok3 (ze n.toNat k.toNat) else (0,[],3)
theorem qwM {n k:Int}(h:¬ (Zk k∧n≤1099511627776)):gz n k=(0,[],3):=by unfold gz;rw[if_neg h]
theorem qrc {n k:Nat}(h:Zk k)(h2:n≤1099511627776):gz n k=ok3 (ze n k):=by unfold gz;rw[if_pos ⟨h,by omega⟩,qxH,qxH]
theorem qwn {F:Nat}(hF:20000≤F){n k:Int}(hn:U64 n):qex F n k=some (gz n k):=by
 unfold qex
 by_cases h:Zk k∧n≤1099511627776
 ·obtain ⟨n,rfl⟩:=qxK hn.1
  obtain ⟨k,rfl,h1,h2⟩:=qxe h.1
  have hn2:n≤1099511627776:=by have:=h.2;omega
  have hl40:=qeM hn2
  have hzl:zh n k≤lg n:=qyT _ _
  have a1:=qr9 n k
  have a2:=qsb (n:=n) h1
  have a3:=(qmK hn2 h2).2
  rw[if_neg (by simp;omega),qvU hn2 h1 h2,qrc h.1 hn2]
  simp only[qxD]
  rw[zz (by omega),qt7 hF (by omega),qfd (by omega),qfJ a1 (by omega),qfJ (by omega) (by omega)]
  simp only[qxD]
  rw[qoA hF (qn9 _) (by rw[qhu];omega) (by omega) (by omega)]
  rfl
 ·rw[if_pos (by unfold Zk at h;simp;omega),qwM h]
def zq (k:Nat)(l:qAq)(i:Nat):Int×Int×Int:=match fz (l.drop i) with
 | none=>(0,0,7)
 | some h=>if 41≤h*k then (0,0,3) else en ((flOf l (i+h+1) (2^(h*k+k)-2^(h*k))).map fun p=>(2^(h*k)+p.1-1,p.2))
theorem qnT {a k:Nat}(hk:1≤k):2*2^a≤2^(a+k):=by
 rw[← qzP];exact qx4 (by decide) (by omega)
theorem qnS {a:Nat}(h:a≤56):2^a≤72057594037927936:=by
 have:2^a≤2^56:=qx4 (by decide) h
 rwa [show (2:Nat)^56=72057594037927936 from by decide] at this
theorem qoP {F i k:Nat}{l:qAq}(hF:20000≤F)(hl:Bit l)(hlm:l.length≤8192)(hi:i≤l.length)(h1:1≤k)(h2:k≤16):qbA F (l.length:Int) (pk l) (i:Int) (k:Int)=some (zq k l i):=by
 unfold qbA
 rw[qq4 hF hl hlm hi]
 unfold zq
 cases hz:fz (l.drop i) with
 | none=>rfl
 | some h =>
  have hq:=qq5 hz
  rw[qx9] at hq
  have hmul:h*k≤8192*16:=Nat.mul_le_mul (by omega) h2
  simp only[qxD,qys,qxP,if_false]
  rw[zz (by omega),qw8 (by omega),yA (by omega)]
  by_cases h3:41≤h*k
  ·rw[if_pos (by simp only[decide_eq_true_eq];omega),if_pos h3]
  ·rw[if_neg (by simp only[decide_eq_true_eq];omega),if_neg h3]
   have e2:imul .i64 (h:Int) (k:Int)=((h*k:Nat):Int):=by
    unfold imul
    rw[← qy1]
    generalize h*k=q at hmul
    exact qX (by omega) (by omega)
   have c1:decide ((0:Int)≤((h*k:Nat):Int))=true:=decide_eq_true (qz5 _)
   have c2:decide ((0:Int)≤(k:Int))=true:=decide_eq_true (by omega)
   rw[e2,c1,c2]
   simp only[chk,if_true,lett]
   have p1:=qnS (a:=h*k) (by omega)
   have p2:=qnS (a:=h*k+k) (by omega)
   have p3:=qnT (a:=h*k) h1
   have p0:0<2^(h*k):=qyN (by decide)
   rw[qgR (by omega),qio (by omega),← qzp,qya (by omega),qfJ (by omega) (by omega)]
   have:=qnt (a:=i+h+1) (m:=2^(h*k+k)-2^(h*k)) hF hl hlm (by omega) (by omega) (by omega)
   cases hf:flOf l (i+h+1) (2^(h*k+k)-2^(h*k)) with
   | none =>
    rw[hf] at this
    obtain ⟨x,y,e⟩:=this
    rw[e];rfl
   | some p =>
    rw[hf] at this
    simp only at this
    have hp:=qtl hl (n:=p.1) (q:=p.2) (by omega) hf
    rw[this]
    simp only[qxD]
    rw[qjv (by omega),qhT (by omega) (by omega),qsl]
    rfl
theorem qdX {n:Nat}(hn:n≤1099511627776):(ga n).length≤81:=by rw[qnx];have:=qeM hn;omega
theorem qvC (p:Nat×Nat):lrI (some p)=((p.1:Int),(p.2:Int)):=rfl
theorem qlg {F n k:Nat}(hn:n≤1099511627776)(h1:1≤k)(h2:k≤16):∀ (j h:Nat),zh n k<j+h→h≤zh n k →
  vV F (n:Int) (k:Int) j ((h:Int),((2^(h*k):Nat):Int))=some ((zh n k:Int),(zf n k:Int),(zt n k:Int))
 | 0,_,_,_=>by omega
 | j+1,h,hh,hi=>by
  show qc3 F (n:Int) (k:Int) (vV F (n:Int) (k:Int) j) (h:Int) ((2^(h*k):Nat):Int)=_
  unfold qc3
  obtain ⟨h40,h56⟩:=qmK hn h2
  have hhk:h*k≤zh n k*k:=qyf k hi
  have c2:decide ((0:Int)≤(k:Int))=true:=decide_eq_true (by omega)
  have p1:=qnS (a:=h*k+k) (by omega)
  rw[c2]
  simp only[chk,if_true]
  rw[qio (by omega),← qzp,qya (by omega),qfd (by omega)]
  have hle:=qrk (n:=n)
  have hlt:=qrl (n:=n)
  by_cases h3:h<zh n k
  ·have h4:h*k+k≤zh n k*k:=by rw[← qyx];exact qyf k h3
   have h5:=qr9 n k
   have h6:2^(h*k+k)≤zf n k:=qx4 (by decide) h4
   rw[if_pos (by simp only[decide_eq_true_eq];omega),qfd (by have:=qeM hn;have:zh n k≤lg n:=qyT _ _;omega)]
   have e:h*k+k=(h+1)*k:=by rw[qyx]
   rw[e]
   exact qlg hn h1 h2 j (h+1) (by omega) (by omega)
  ·obtain rfl:h=zh n k:=by omega
   have h5:=qsb (n:=n) h1
   unfold zt at h5
   rw[if_neg (by simp only[decide_eq_true_eq];omega)]
   unfold qeS
   rw[c2]
   simp only[chk,if_true]
   rw[qio (by omega),← qzp,qya (by omega)]
   rfl
theorem qpJ {F n k:Nat}(hF:20000≤F)(hn:n≤1099511627776)(h1:1≤k)(h2:k≤16):qeY F (n:Int) (k:Int)=some (ze n k):=by
 unfold qeY qgA
 have hl40:=qeM hn
 have hzl:zh n k≤lg n:=qyT _ _
 have a1:=qr9 n k
 have a2:=qsb (n:=n) h1
 have a3:=(qmK hn h2).2
 have a4:=qi0 (m:=zt n k-zf n k) (by omega)
 have:=qlg (F:=F) hn h1 h2 F 0 (by omega) (by omega)
 rw[Nat.zero_mul,Nat.pow_zero] at this
 rw[show (((0:Nat):Int),((1:Nat):Int))=((0:Int),(1:Int)) from rfl] at this
 rw[this]
 simp only[qxD]
 rw[qoa (by omega) (by omega)]
 simp only[qxD]
 rw[qfd (by omega),qfJ a1 (by omega),qfJ (by omega) (by omega),qnH hF (by omega) (by omega)]
 simp only[qxD]
 have hll:=qqc (n+1-zf n k) (zt n k-zf n k)
 rw[qT (by rw[qhu];split at hll <;> omega)]
 rfl
theorem qlf {F k q h:Nat}{l:qAq}{x:Int×Int}(hx:x.1=(h:Int))(hx2:x.2=(q:Int))(hF:20000≤F)(hl:Bit l)(hlm:l.length≤8192)(hq:q≤l.length)(h1:1≤k)(h2:k≤16)(h41:h*k≤40):∀ (j i:Nat),h<j+i→i≤h →
  vU F l (k:Int) x j (((2^(i*k):Nat):Int),(i:Int))=some (en ((flOf l q (2^(h*k+k)-2^(h*k))).map fun p=>(2^(h*k)+p.1-1,p.2)))
 | 0,_,_,_=>by omega
 | j+1,i,hh,hi=>by
  show qc2 F l (k:Int) x (vU F l (k:Int) x j) ((2^(i*k):Nat):Int) (i:Int)=_
  unfold qc2
  have c2:decide ((0:Int)≤(k:Int))=true:=decide_eq_true (by omega)
  have hik:i*k≤h*k:=qyf k hi
  have hhk:h≤h*k:=qzK h (by omega)
  have p1:=qnS (a:=i*k+k) (by omega)
  rw[hx]
  by_cases h3:i<h
  ·rw[if_pos (by simp;omega),c2]
   simp only[chk,if_true]
   rw[qio (by omega),← qzp,qya (by omega),qfd (by omega)]
   have e:i*k+k=(i+1)*k:=by rw[qyx]
   rw[e]
   exact qlf hx hx2 hF hl hlm hq h1 h2 h41 j (i+1) (by omega) (by omega)
  ·obtain rfl:i=h:=by omega
   rw[if_neg (by simp)]
   unfold qeR
   have p3:=qnT (a:=i*k) h1
   have p0:0<2^(i*k):=qyN (by decide)
   rw[c2,hx2]
   simp only[chk,if_true]
   rw[qio (by omega),← qzp,qya (by omega),qfJ (by omega) (by omega),qnI hF hl hlm hq (by omega) (by omega)]
   simp only[qxD]
   cases hf:flOf l q (2^(i*k+k)-2^(i*k)) with
   | none=>rfl
   | some p =>
    have hp:=qtl hl (n:=p.1) (q:=p.2) (by omega) hf
    rw[qvC]
    simp only
    rw[if_neg (by simp),qjv (by omega),qhT (by omega) (by omega)]
    simp only[qyg,en]
    by_cases h4:1099511627776<2^(i*k)+p.1-1
    ·rw[if_pos (by simp only[decide_eq_true_eq];omega),if_pos h4]
    ·rw[if_neg (by simp only[decide_eq_true_eq];omega),if_neg h4]
theorem qpK {F i k:Nat}{l:qAq}(hF:20000≤F)(hl:Bit l)(hlm:l.length≤8192)(hi:i≤l.length)(h1:1≤k)(h2:k≤16):qeZ F l (i:Int) (k:Int)=some (zq k l i):=by
 unfold qeZ zq
 rw[qi8 (by omega) hF hi]
 simp only[qxD]
 cases hz:fz (l.drop i) with
 | none=>rfl
 | some h =>
  have hq:=qq5 hz
  rw[qx9] at hq
  simp only
  have hmul:h*k≤8192*16:=Nat.mul_le_mul (by omega) h2
  have hhk:h≤h*k:=qzK h (by omega)
  have e2:imul .i64 (h:Int) (k:Int)=((h*k:Nat):Int):=by
   unfold imul
   rw[← qy1]
   generalize h*k=q at hmul
   exact qX (by omega) (by omega)
  rw[if_neg (by simp;omega),yA (by omega),e2]
  by_cases h3:41≤h*k
  ·rw[if_pos (by simp only[qyC,decide_eq_true_eq];omega),if_pos h3]
  ·rw[if_neg (by simp only[qyC,decide_eq_true_eq];omega),if_neg h3]
   have:=qlf (F:=F) (x:=((h:Int),((i+h+1:Nat):Int))) rfl rfl hF hl hlm (by omega) h1 h2 (by omega) F 0 (by omega) (by omega)
   rw[Nat.zero_mul,Nat.pow_zero] at this
   exact this
theorem qtJ {n m:Nat}(hm:m≤9223372036854775808):(le n m).length≤63:=by
 have:=qqc n m;have:=qi0 hm;split at*<;> omega
theorem qqT {n k:Nat}(hn:n≤1099511627776)(hk2:k≤16):(ze n k).length≤200:=by
 have hzl:zh n k≤lg n:=qyT _ _
 have hl40:=qeM (n:=n) (by omega)
 have a3:=(qmK (n:=n) (by omega) hk2).2
 have hle:=qtJ (n:=n+1-zf n k) (m:=zt n k-zf n k) (by omega)
 unfold ze;rw[qxF,qhu];omega
def foldOf (x:Int):Int:=if x<0 then 2*(-(x+1))+1 else 2*x
theorem qod {x:Int}(h1:-9223372036854775808≤x)(h2:x<0):IntKind.wrap .u64 x=x+18446744073709551616:=by
 rw[qja];omega
theorem qu7 (n:Nat)(h:n<18446744073709551616):ixor .u64 (n:Int) 18446744073709551615=18446744073709551615-(n:Int):=by
 unfold ixor
 have h1:(qye (IntKind.bits .u64) (n:Int))=qyc 64 n:=by simp[IntKind.bits]
 have h2:(qye (IntKind.bits .u64) (18446744073709551615:Int))=qzg 64:=by show qye 64 _=_;decide
 rw[h1,h2]
 have h3:(qyc 64 n ^^^ qzg 64) = ~~~ (qyc 64 n):=BitVec.xor_allOnes
 have h4:(qyc 64 n ^^^ qzg 64).toNat=18446744073709551615-n:=by
  rw[h3,BitVec.toNat_not,qyy]
  omega
 show IntKind.wrap .u64 ((qyc 64 n ^^^ qzg 64).toNat:Int)=_
 rw[h4,zG (by omega) (by omega)]
 omega
theorem qqQ (n:Nat)(h:n<18446744073709551616):ixor .u64 (n:Int) 0=(n:Int):=by
 unfold ixor
 have h1:(qye (IntKind.bits .u64) (n:Int))=qyc 64 n:=by simp[IntKind.bits]
 have h2:(qye (IntKind.bits .u64) (0:Int))=0#64:=by show qye 64 _=_;decide
 rw[h1,h2]
 show IntKind.wrap .u64 ((qyc 64 n ^^^ 0#64).toNat:Int)=_
 rw[BitVec.xor_zero,qyy,qya (by omega),zG (by omega) (by omega)]
theorem qqO (n:Nat)(h:n<9223372036854775808):ixor .i64 (n:Int) (-1)=-(n:Int)-1:=by
 unfold ixor
 have h1:(qye (IntKind.bits .i64) (n:Int))=qyc 64 n:=by simp[IntKind.bits]
 have h2:(qye (IntKind.bits .i64) (-1:Int))=qzg 64:=by show qye 64 _=_;decide
 rw[h1,h2]
 have h3:(qyc 64 n ^^^ qzg 64) = ~~~ (qyc 64 n):=BitVec.xor_allOnes
 have h4:(qyc 64 n ^^^ qzg 64).toNat=18446744073709551615-n:=by
  rw[h3,BitVec.toNat_not,qyy]
  omega
 show IntKind.wrap .i64 ((qyc 64 n ^^^ qzg 64).toNat:Int)=_
 rw[h4]
 unfold IntKind.wrap
 simp only[IntKind.bits,IntKind.signed,show (2^64:Int)=18446744073709551616 from by decide,show (2^(64-1):Int)=9223372036854775808 from by decide]
 rw[if_pos (by simp;omega)]
 omega
theorem qqP (n:Nat)(h:n<9223372036854775808):ixor .i64 (n:Int) 0=(n:Int):=by
 unfold ixor
 have h1:(qye (IntKind.bits .i64) (n:Int))=qyc 64 n:=by simp[IntKind.bits]
 have h2:(qye (IntKind.bits .i64) (0:Int))=0#64:=by show qye 64 _=_;decide
 rw[h1,h2]
 show IntKind.wrap .i64 ((qyc 64 n ^^^ 0#64).toNat:Int)=_
 rw[BitVec.xor_zero,qyy,qya (by omega),qX (by omega) (by omega)]
theorem qq2 (F:Nat){x:Int}(h1:-9223372036854775808≤x)(h2:x<9223372036854775808):qcN F x=some (foldOf x):=by
 unfold qcN lett foldOf
 have hs:ishr .i64 x 63=x/9223372036854775808:=by
  have:=qhB (k:=.i64) (a:=x) (m:=63) (by decide)
  rw[show ((63:Nat):Int)=63 from rfl,show (2:Int)^63=9223372036854775808 from by decide] at this
  exact this
 have hl:∀ y:Int,ishl .u64 y 1=(y*2)%18446744073709551616:=fun y=>qkx (a:=y) (m:=1) (by decide)
 rw[hs,hl]
 by_cases hx:x<0
 ·rw[if_pos hx,show x/9223372036854775808=-1 from by omega]
  have e1:iconv .u64 x=x+18446744073709551616:=qod h1 hx
  have e2:iconv .u64 (-1)=18446744073709551615:=by decide
  rw[e1,e2,show (x+18446744073709551616)*2%18446744073709551616=(((2*x+18446744073709551616).toNat:Nat):Int) from by omega,qu7 _ (by omega)]
  congr 1
  omega
 ·rw[if_neg hx,show x/9223372036854775808=0 from by omega]
  have e1:iconv .u64 x=x:=zG (by omega) (by omega)
  have e2:iconv .u64 0=0:=by decide
  rw[e1,e2,show x*2%18446744073709551616=((2*x).toNat:Int) from by omega,qqQ _ (by omega)]
  congr 1
  omega
theorem qma (F:Nat){x:Int}(h1:-9223372036854775808≤x)(h2:x<9223372036854775808):qfh F x=some (foldOf x):=by
 unfold qfh lett foldOf
 by_cases hx:x<0
 ·simp only[hx,decide_true,if_true]
  have e1:iadd .i64 x 1=x+1:=qw (by omega) (by omega)
  have e2:isub .i64 0 (x+1)=-(x+1):=by rw[qy (by omega) (by omega)];omega
  have e3:iconv .u64 (-(x+1))=-(x+1):=zG (by omega) (by omega)
  rw[e1,e2,e3]
  unfold imul iadd
  rw[zG (n:=2*-(x+1)) (by omega) (by omega),zG (by omega) (by omega)]
 ·simp only[hx,decide_false,qxP,if_false]
  have e3:iconv .u64 x=x:=zG (by omega) (by omega)
  rw[e3]
  unfold imul
  rw[zG (by omega) (by omega)]
def zl (n:Int):Int:=if n%2=0 then n/2 else -(n/2)-1
theorem qmG (F:Nat){n:Int}(h1:0≤n)(h2:n<18446744073709551616):qa4 F n=some (zl n):=by
 unfold qa4 lett zl
 have hs:ishr .u64 n 1=n/2:=by
  have:=qhB (k:=.u64) (a:=n) (m:=1) (by decide)
  simpa using this
 have ha:iand .u64 n 1=n%2:=by
  have:=qhA (k:=.u64) (a:=n) (m:=1) h1 (by simpa[IntKind.bits] using h2) (by decide) rfl
  simpa using this
 have e1:iconv .i64 (n/2)=n/2:=qX (by omega) (by omega)
 have e2:iconv .i64 (n%2)=n%2:=qX (by omega) (by omega)
 rw[hs,ha,e1,e2]
 by_cases h:n%2=0
 ·rw[if_pos h,h,show isub .i64 0 0=0 from by decide,show n/2=((n/2).toNat:Int) from by omega,qqP _ (by omega)]
 ·rw[if_neg h,show n%2=1 from by omega,show isub .i64 0 1=-1 from by decide,show n/2=((n/2).toNat:Int) from by omega,qqO _ (by omega)]
theorem qhv (x:Int):zl (foldOf x)=x:=by
 unfold zl foldOf
 split <;> split <;> omega
theorem qnN {F:Nat}{x:Int}:qeI F x=some (decide (0≤x∧x≤1048576)):=by
 unfold qeI
 congr 1
 by_cases h:0≤x <;> by_cases h2:x≤1048576 <;> simp[h,h2]
def gk:Int→qAq→Int
 | _,[]=>0
 | last,n::l=>if 0≤n∧n≤1048576 then (if n≤last then 4 else gk n l) else 3
def gkc (l:qAq):Int:=if 300<l.length then 2 else gk (-1) l
theorem qoT {F:Nat}{l:qAq}(hm:l.length≤300):∀ (k i:Nat) (last:Int),l.length<k+i→i≤l.length →
  vX F l k (last,(i:Int))=some (gk last (l.drop i))
 | 0,_,_,_,_=>by omega
 | k+1,i,last,h,hi=>by
  show qc5 F l (vX F l k) last (i:Int)=_
  unfold qc5
  by_cases hlt:i<l.length
  ·rw[if_pos (by simp;omega),qt,qxE hlt,qxI hlt,gk]
   simp only[qxD]
   rw[qnN]
   simp only[qxD]
   by_cases h1:0≤l[i]∧l[i]≤1048576
   ·rw[decide_eq_true h1,if_pos h1,if_neg (by simp)]
    by_cases h2:l[i]≤last
    ·rw[if_pos h2,if_pos (by simpa using h2)]
    ·rw[if_neg h2,if_neg (by simpa using h2),qn (by omega)]
     exact qoT hm k (i+1) _ (by omega) (by omega)
   ·rw[decide_eq_false h1,if_neg h1,if_pos (by simp)]
  ·rw[if_neg (by simp;omega),qxN (by omega)]
   rfl
theorem qgl {F:Nat}(hF:20000≤F){l:qAq}:js F l=some (gkc l):=by
 unfold js gkc
 by_cases h:300<l.length
 ·rw[if_pos (by simp;omega),if_pos h]
 ·rw[if_neg (by simp;omega),if_neg h]
  exact qoT (by omega) F 0 (-1) (by omega) (by omega)
theorem qpg {F:Nat}{l:qAq}(hm:l.length≤300):∀ (k i:Nat) (last:Int),l.length<k+i→i≤l.length→(i=0∧last=-1∨0<i∧l[i-1]?=some last) →
  zQ F l k (i:Int)=some (gk last (l.drop i))
 | 0,_,_,_,_,_=>by omega
 | k+1,i,last,h,hi,hlast=>by
  show jO F l (zQ F l k) (i:Int)=_
  unfold jO
  by_cases hlt:i<l.length
  ·rw[if_pos (by simp;omega),qt,qxE hlt,qxI hlt,gk]
   simp only[qxD]
   rw[qdn]
   simp only[qxD]
   by_cases h1:0≤l[i]∧l[i]≤1048576
   ·rw[decide_eq_true h1,if_pos h1,if_neg (by simp)]
    have hrec:zQ F l k ((i+1:Nat):Int)=some (gk l[i] (l.drop (i+1))) :=
     qpg hm k (i+1) _ (by omega) (by omega) (.inr ⟨by omega,by rw[qx6,qxE hlt]⟩)
    rcases hlast with ⟨rfl,rfl⟩ | ⟨h0,hl⟩
    ·rw[if_neg (by simp)]
     unfold yX
     rw[if_neg (by simp),if_neg (show ¬ l[0]≤-1 by omega),qn (by omega)]
     exact hrec
    ·rw[if_pos (by simp;omega),yO (by omega) (by omega),qt,hl]
     simp only[qxD,yX]
     by_cases h2:l[i]≤last
     ·rw[if_pos h2,if_pos (by simpa using h2)]
     ·rw[if_neg h2,if_neg (by simpa using h2),qn (by omega)]
      exact hrec
   ·rw[decide_eq_false h1,if_neg h1,if_pos (by simp)]
  ·rw[if_neg (by simp;omega),qxN (by omega)]
   rfl
theorem qhJ {F:Nat}(hF:20000≤F){l:qAq}:vR F l=some (gkc l):=by
 unfold vR gkc
 by_cases h:300<l.length
 ·rw[if_pos (by simp;omega),if_pos h]
 ·rw[if_neg (by simp;omega),if_neg h]
  exact qpg (by omega) F 0 (-1) (by omega) (by omega) (.inl ⟨rfl,rfl⟩)
def Ris:Int→qAq→Prop
 | _,[]=>True
 | last,n::l=>(0≤n∧n≤1048576)∧last<n∧Ris n l
theorem qtA:∀ {last:Int} {l:qAq},gk last l=0↔Ris last l
 | _,[]=>by simp[gk,Ris]
 | last,n::l=>by
  unfold gk Ris
  by_cases h1:0≤n∧n≤1048576
  ·rw[if_pos h1]
   by_cases h2:n≤last
   ·rw[if_pos h2];simp;omega
   ·rw[if_neg h2,qtA];simp[h1];omega
  ·rw[if_neg h1];simp;omega
theorem zL {l:qAq}:gkc l=0↔(l.length≤300∧Ris (-1) l):=by
 unfold gkc
 by_cases h:300<l.length
 ·rw[if_pos h];simp;omega
 ·rw[if_neg h,qtA];simp;omega
def Nd (x:Int):Prop:=0≤x∧x≤1048576
instance ndDec (x:Int):Decidable (Nd x):=inferInstanceAs (Decidable (_∧_))
def gp:Bool→Int→qAq→qAq
 | _,_,[]=>[]
 | b,a,n::l=>(if b then n-a-1 else foldOf (n-a))::gp true n l
theorem qjf:∀ (b:Bool) (a:Int) (l:qAq),(gp b a l).length=l.length
 | _,_,[]=>rfl
 | b,a,n::l=>by rw[gp,qxX,qxX,qjf]
theorem qwK {F:Nat}{a n:Int}{b:Bool}(ha:Nd a)(hn:Nd n)(hb:b=true→a<n):qbz F a b n=some (if b then n-a-1 else foldOf (n-a),n,true):=by
 unfold qbz
 have h1:=ha.1;have h2:=ha.2;have h3:=hn.1;have h4:=hn.2
 cases b with
 | true =>
  have:=hb rfl
  rw[if_pos rfl,if_pos rfl,qy (a:=n) (b:=a) (by omega) (by omega),qy (a:=n-a) (by omega) (by omega)]
  have e:iconv .u64 (n-a-1)=n-a-1:=zG (by omega) (by omega)
  rw[e];rfl
 | false =>
  rw[if_neg (by simp),if_neg (by simp),qy (by omega) (by omega),qq2 F (by omega) (by omega)]
  rfl
theorem qtB {F:Nat}{l:qAq}(hm:l.length≤300):∀ (k i:Nat) (a:Int) (b:Bool) (o:qAq),l.length<k+i→i≤l.length→Nd a→(b=true→Ris a (l.drop i))→(b=false→∃ q,Ris q (l.drop i))→o.length+(l.length-i)≤1000 →
  qbe F l k (o,(i:Int),a,b)=some (o++gp b a (l.drop i))
 | 0,_,_,_,_,_,_,_,_,_,_=>by omega
 | k+1,i,a,b,o,h,hi,ha,hb,hb2,ho=>by
  show qew F l (qbe F l k) o (i:Int) a b=_
  unfold qew
  by_cases hlt:i<l.length
  ·rw[qxI hlt] at hb hb2 ⊢
   have hx:Nd l[i]∧Ris l[i] (l.drop (i+1)):=by
    cases b with
    | true=>have:=hb rfl;exact ⟨this.1,this.2.2⟩
    | false=>obtain ⟨q,hq⟩:=hb2 rfl;exact ⟨hq.1,hq.2.2⟩
   rw[if_pos (by simp;omega),qt,qxE hlt]
   simp only[qxD]
   rw[qwK ha hx.1 (fun h=>(hb h).2.1)]
   simp only[qxD]
   rw[qT (by simp;omega),qn (by omega)]
   simp only[qxD]
   rw[qtB hm k (i+1) _ _ _ (by omega) (by omega) hx.1 (fun _=>hx.2) (fun h=>by cases h) (by simp;omega)]
   rw[gp]
   simp
  ·rw[if_neg (by simp;omega),qxN (by omega)]
   simp[qf8,gp]
theorem qvu {F:Nat}(hF:20000≤F){l:qAq}{a q:Int}(hm:l.length≤300)(ha:Nd a)(hr:Ris q l):qfr F l a=some (gp false a l):=by
 unfold qfr
 have:=qtB (F:=F) hm F 0 a false [] (by omega) (by omega) ha (fun h=>by cases h) (fun _=>⟨q,by rw[qxT];exact hr⟩) (by simp;omega)
 rw[qxT,qxV] at this
 exact this
theorem qku {F:Nat}{l:qAq}{at_ q:Int}(hm:l.length≤300)(ha:Nd at_)(hr:Ris q l):∀ (k i:Nat) (a:Int) (o:qAq),l.length<k+i→i≤l.length→(i=0∧a=at_∨0<i∧l[i-1]?=some a∧Nd a∧Ris a (l.drop i))→o.length+(l.length-i)≤1000 →
  jD F l at_ k (o,(i:Int))=some (o++gp (decide (0<i)) a (l.drop i))
 | 0,_,_,_,_,_,_,_=>by omega
 | k+1,i,a,o,h,hi,hinv,ho=>by
  show qeh F l at_ (jD F l at_ k) o (i:Int)=_
  unfold qeh
  by_cases hlt:i<l.length
  ·rw[if_pos (by simp;omega)]
   rcases hinv with ⟨rfl,rfl⟩ | ⟨h0,h1,h2,h3⟩
   ·obtain ⟨n,l',rfl⟩:∃ n l',l=n::l':=by cases l with | nil=>simp at hlt | cons n l'=>exact ⟨n,l',rfl⟩
    have hn:=hr.1
    rw[if_pos (by simp)]
    have hix:idx (n::l') 0=some n:=rfl
    rw[hix]
    simp only[qxD]
    have b1:=ha.1;have b2:=ha.2;have b3:=hn.1;have b4:=hn.2
    rw[qy (by omega) (by omega),qma F (by omega) (by omega)]
    simp only[qxD]
    rw[qT (by simp;omega)]
    simp only[qxD,qcG]
    rw[qn (by omega),qku hm ha hr k 1 n _ (by omega) (by simp) (.inr ⟨by omega,rfl,hn,hr.2.2⟩) (by simp at ho ⊢;omega)]
    simp[gp]
   ·rw[qxI hlt] at h3 ⊢
    have hx:=h3.1
    have b1:=h2.1;have b2:=h2.2;have b3:=hx.1;have b4:=hx.2;have b5:=h3.2.1
    rw[if_neg (by simp;omega),qt,qxE hlt]
    simp only[qxD]
    rw[yO (by omega) (by omega),qt,h1]
    simp only[qxD]
    rw[qy (a:=l[i]) (b:=a) (by omega) (by omega),qy (a:=l[i]-a) (by omega) (by omega)]
    have e:iconv .u64 (l[i]-a-1)=l[i]-a-1:=zG (by omega) (by omega)
    rw[e,qT (by simp;omega)]
    simp only[qxD,qcG]
    rw[qn (by omega),qku hm ha hr k (i+1) l[i] _ (by omega) (by omega) (.inr ⟨by omega,by rw[qx6,qxE hlt],hx,h3.2.2⟩) (by simp;omega)]
    have hd:decide (0<i)=true:=decide_eq_true h0
    rw[hd,gp]
    simp
  ·rw[if_neg (by simp;omega),qxN (by omega)]
   simp[qf2,gp]
theorem qsq {F:Nat}(hF:20000≤F){l:qAq}{a q:Int}(hm:l.length≤300)(ha:Nd a)(hr:Ris q l):qgw F l a=some (gp false a l):=by
 unfold qgw
 have:=qku (F:=F) hm ha hr F 0 a [] (by omega) (by omega) (.inl ⟨rfl,rfl⟩) (by simp;omega)
 rw[qxT,qxV] at this
 exact this
def st (b:Bool)(a g:Int):Option Int:=if 2097152<g then none else if Nd (if b then a+g+1 else a+zl g) then some (if b then a+g+1 else a+zl g) else none
theorem qwz {b:Bool}{a g n:Int}(h:st b a g=some n):Nd n∧g≤2097152∧n=(if b then a+g+1 else a+zl g):=by
 unfold st at h
 by_cases h1:2097152<g
 ·rw[if_pos h1] at h;simp at h
 ·rw[if_neg h1] at h
  by_cases h2:Nd (if b then a+g+1 else a+zl g)
  ·rw[if_pos h2] at h
   have:=qzx h
   exact ⟨this▸h2,by omega,this.symm⟩
  ·rw[if_neg h2] at h;simp at h
theorem qvY {F:Nat}{a g:Int}{b:Bool}(ha:Nd a)(hg:U64 g):match st b a g with
  | none=>∃ x y,kz F a b g=some (false,x,y)
  | some n=>kz F a b g=some (true,n,true):=by
 have h1:=ha.1;have h2:=ha.2;have h3:=hg.1;have h4:=hg.2
 by_cases h:2097152<g
 ·have e:st b a g=none:=by unfold st;rw[if_pos h]
  rw[e]
  unfold kz
  rw[if_pos (by simpa using h)]
  exact ⟨_,_,rfl⟩
 ·have hu:-1048577≤zl g∧zl g≤1048577:=by unfold zl;split <;> omega
  have hM:kz F a b g=some (decide (Nd (if b then a+g+1 else a+zl g)),(if b then a+g+1 else a+zl g),true):=by
   unfold kz
   rw[if_neg (by simpa using h)]
   cases b with
   | true =>
    have e:iconv .i64 g=g:=qX (by omega) (by omega)
    rw[if_pos rfl,e,qw (a:=g) (by omega) (by omega),qw (by omega) (by omega)]
    unfold ya
    rw[qnN,show a+(g+1)=a+g+1 from by omega]
    rfl
   | false =>
    rw[if_neg (by simp),qmG F h3 h4]
    simp only[qxD]
    rw[qw (by omega) (by omega)]
    unfold ya
    rw[qnN]
    rfl
  rw[hM]
  unfold st
  rw[if_neg h]
  by_cases h5:Nd (if b then a+g+1 else a+zl g)
  ·rw[if_pos h5]
   simp only
   rw[decide_eq_true h5]
  ·rw[if_neg h5,decide_eq_false h5]
   exact ⟨_,_,rfl⟩
theorem qrg {g:Int}(h:0≤g):irem g 2=g%2:=by unfold irem;rw[qzk h]
theorem qks {F:Nat}{a g:Int}{b:Bool}(ha:Nd a)(hg:U64 g):qdq F g a (!b)=some (match st b a g with | none=>-1 | some n=>n):=by
 have h1:=ha.1;have h2:=ha.2;have h3:=hg.1;have h4:=hg.2
 unfold qdq
 have hj:∀ n:Int,jR F n=some (if Nd n then n else -1):=by
  intro n
  unfold jR
  rw[qdn]
  simp only[qxD]
  by_cases h:Nd n
  ·have:decide (0≤n∧n≤1048576)=true:=decide_eq_true h
   rw[this,if_pos h];rfl
  ·have:decide (0≤n∧n≤1048576)=false:=decide_eq_false h
   rw[this,if_neg h];rfl
 by_cases h:4194304<g
 ·have e:st b a g=none:=by unfold st;rw[if_pos (by omega)]
  rw[if_pos (by simpa using h),e]
 ·have e:iconv .i64 g=g:=qX (by omega) (by omega)
  have eq:iquo .i64 g 2=g/2:=by unfold iquo;rw[qyG h3,qX (by omega) (by omega)]
  have hst:st b a g=if Nd (if b then a+g+1 else a+zl g) then some (if b then a+g+1 else a+zl g) else none:=by
   unfold st
   by_cases h5:2097152<g
   ·rw[if_pos h5,if_neg]
    intro hn
    have hn1:=hn.1;have hn2:=hn.2
    cases b with
    | true=>simp only[if_true] at hn2;omega
    | false =>
     simp only[qxP,if_false] at hn1 hn2
     unfold zl at hn1 hn2
     split at hn1 <;> omega
   ·rw[if_neg h5]
  rw[if_neg (by simpa using h),e,eq,hst,qrg h3]
  simp only[lett]
  cases b with
  | true =>
   rw[qw (a:=a) (b:=g) (by omega) (by omega),qw (a:=a+g) (b:=1) (by omega) (by omega)]
   simp only[qys,qxP,if_false,if_true]
   rw[hj]
   by_cases h6:Nd (a+g+1) <;> simp[h6]
  | false =>
   simp only[qzA,if_true,qxP,if_false]
   by_cases h7:g%2=1
   ·have hun:zl g=-(g/2)-1:=by unfold zl;rw[if_neg (by omega)]
    rw[if_pos (by simpa using h7),qy (a:=a) (b:=g/2) (by omega) (by omega),qy (a:=a-g/2) (b:=1) (by omega) (by omega),hj,hun,show a-g/2-1=a+(-(g/2)-1) from by omega]
    by_cases h6:Nd (a+(-(g/2)-1)) <;> simp[h6]
   ·have hun:zl g=g/2:=by unfold zl;rw[if_pos (by omega)]
    rw[if_neg (by simpa using h7),qw (by omega) (by omega),hj,hun]
    by_cases h6:Nd (a+g/2) <;> simp[h6]
def bk:Bool→Int→qAq→Option (qAq)
 | _,_,[]=>some []
 | b,a,g::l=>(st b a g).bind fun n=>(bk true n l).map (n::·)
def zes (k:Nat)(g:qAq):qAq:=g.flatMap fun x=>ze x.toNat k
theorem qgs (k:Nat)(x:Int)(g:qAq):zes k (x::g)=ze x.toNat k++zes k g:=rfl
theorem qr8 (k:Nat)(g:qAq):Bit (zes k g):=by
 induction g with
 | nil=>intro x hx;simp[zes] at hx
 | cons x g ih=>rw[qgs];exact kw (qqS _ _) ih
def L40 (g:qAq):Prop:=∀ x∈g,0≤x∧x≤1099511627776
theorem qwu {F k:Nat}(hF:20000≤F)(h1:1≤k)(h2:k≤16){g:qAq}(hg:L40 g)(hgm:g.length≤10000):∀ (j i:Nat) (l:qAq),g.length<j+i→i≤g.length→Bit l→l.length≤8192 →
  qbd F g (k:Int) j ((i:Int),(l.length:Int),pk l)=some (if (l++zes k (g.drop i)).length≤8192 then (((l++zes k (g.drop i)).length:Int),pk (l++zes k (g.drop i)),true) else (0,[],false))
 | 0,_,_,_,_,_,_=>by omega
 | j+1,i,l,h,hi,hl,hlm=>by
  show qev F g (k:Int) (qbd F g (k:Int) j) (i:Int) (l.length:Int) (pk l)=_
  unfold qev
  by_cases hlt:i<g.length
  ·have hx:=hg _ (qx8 hlt)
   obtain ⟨x,hxe⟩:=qxK hx.1
   rw[if_pos (by simp;omega),qt,qxE hlt,qxI hlt,qgs,hxe,qxH]
   simp only[qxD]
   have hk:Zk (k:Int):=⟨by omega,by omega⟩
   rw[qwn hF ⟨by omega,by omega⟩,qrc hk (by omega)]
   simp only[qxD,ok3]
   have hz:=qqT (n:=x) (k:=k) (by omega) h2
   rw[vg (by omega)]
   by_cases h3:l.length+(ze x k).length≤8192
   ·rw[if_neg (by simp;omega),qqV hF hl (qqS _ _) hlm (by omega)]
    simp only[qxD]
    rw[qn (by omega),qwu hF h1 h2 hg hgm j (i+1) (l++ze x k) (by omega) (by omega) (kw hl (qqS _ _)) (by rw[qxF];omega)]
    rw[qxG]
   ·rw[if_pos (by simp;omega),if_neg (by simp only[qxF];omega)]
  ·rw[if_neg (by simp;omega),qxN (by omega)]
   have:zes k []=[]:=rfl
   rw[this,qyv,if_pos hlm]
   rfl
theorem qvt {F k:Nat}(hF:20000≤F)(h1:1≤k)(h2:k≤16){g l:qAq}(hg:L40 g)(hgm:g.length≤10000)(hl:Bit l)(hlm:l.length≤8192) :
  qdj F (l.length:Int) (pk l) g (k:Int)=some (if (l++zes k g).length≤8192 then (((l++zes k g).length:Int),pk (l++zes k g),true) else (0,[],false)):=by
 unfold qdj
 have:=qwu hF h1 h2 hg hgm F 0 l (by omega) (by omega) hl hlm
 rw[qxT] at this
 exact this
theorem qmd:∀ {b:Bool} {a q:Int} {l:qAq},Nd a→Ris q l→(b=true→Ris a l)→∀ x∈gp b a l,0≤x∧x≤2097153
 | _,_,_,[],_,_,_=>by intro x hx;simp[gp] at hx
 | b,a,q,n::l,ha,hr,hb=>by
  intro x hx
  rw[gp] at hx
  have h1:=ha.1;have h2:=ha.2;have h3:=hr.1.1;have h4:=hr.1.2
  rcases qxO.1 hx with rfl | hx
  ·cases b with
   | true=>have:=(hb rfl).2.1;simp only[if_true];omega
   | false=>simp only[qxP,if_false];unfold foldOf;split <;> omega
  ·exact qmd hr.1 hr.2.2 (fun _=>hr.2.2) x hx
def gfr (l:qAq)(k:Nat):Nat→Bool→Int→Nat→Int ⊕ (qAq×Nat)
 | 0,_,_,p=>.inr ([],p)
 | m+1,b,a,p=>if (zq k l p).2.2≠0 then .inl (zq k l p).2.2 else match st b a (zq k l p).1 with
  | none=>.inl 3
  | some n=>match gfr l k m true n (zq k l p).2.1.toNat with
   | .inl e=>.inl e
   | .inr r=>.inr (n::r.1,r.2)
def gfI (o:qAq)(r:Int ⊕ (qAq×Nat)):qAq×Int×Int:=match r with | .inl e=>([],0,e) | .inr r=>(o++r.1,(r.2:Int),0)
theorem qu9 {k:Nat}{l:qAq}(hl:Bit l){p:Nat}(h1:1≤k):(zq k l p).2.2≠0∨∃ g q:Nat,zq k l p=((g:Int),(q:Int),0)∧g≤1099511627776∧q≤l.length:=by
 unfold zq
 cases hz:fz (l.drop p) with
 | none=>left;simp
 | some h =>
  simp only
  by_cases h3:41≤h*k
  ·left;rw[if_pos h3];simp
  ·rw[if_neg h3]
   have p3:=qnT (a:=h*k) h1
   have p0:0<2^(h*k):=qyN (by decide)
   cases hf:flOf l (p+h+1) (2^(h*k+k)-2^(h*k)) with
   | none=>left;simp[en]
   | some r =>
    have:=qtl hl (n:=r.1) (q:=r.2) (by omega) hf
    simp only[qyg,en]
    by_cases h4:1099511627776<2^(h*k)+r.1-1
    ·left;rw[if_pos h4];simp
    ·right;rw[if_neg h4];exact ⟨_,_,rfl,by omega,this.2⟩
theorem qq9 {F k many:Nat}{l:qAq}(hF:20000≤F)(hl:Bit l)(hlm:l.length≤8192)(h1:1≤k)(h2:k≤16)(hm:many≤300):∀ (j i p:Nat) (a:Int) (b:Bool) (o:qAq),many<j+i→i≤many→p≤l.length→Nd a→o.length+(many-i)≤1000 →
  j7 F (l.length:Int) (pk l) (k:Int) (many:Int) j ((p:Int),o,(i:Int),a,b)=some (gfI o (gfr l k (many-i) b a p))
 | 0,_,_,_,_,_,_,_,_,_,_=>by omega
 | j+1,i,p,a,b,o,h,hi,hp,ha,ho=>by
  show qdL F (l.length:Int) (pk l) (k:Int) (many:Int) (j7 F (l.length:Int) (pk l) (k:Int) (many:Int) j) (p:Int) o (i:Int) a b=_
  unfold qdL
  by_cases hlt:i<many
  ·rw[if_pos (by simp;omega),qoP hF hl hlm hp h1 h2,show many-i=(many-(i+1))+1 from by omega]
   simp only[qxD]
   unfold gfr
   rcases qu9 hl (k:=k) (p:=p) h1 with hz | ⟨g,q,hz,hg,hq⟩
   ·rw[if_pos hz,if_pos (by simpa using hz)]
    rfl
   ·rw[hz]
    simp only[ne_eq,not_true_eq_false,if_false,bne_self_eq_false,qxP,qxH]
    have hs:=qvY (F:=F) (b:=b) ha (g:=(g:Int)) ⟨by omega,by omega⟩
    cases hst:st b a (g:Int) with
    | none =>
     rw[hst] at hs
     obtain ⟨x,y,e⟩:=hs
     rw[e];rfl
    | some n =>
     rw[hst] at hs
     simp only at hs
     rw[hs]
     simp only[qxD,qys,qxP,if_false]
     rw[qT (by simp;omega),qn (by omega)]
     simp only[qxD]
     rw[qq9 hF hl hlm h1 h2 hm j (i+1) q n true _ (by omega) (by omega) hq (qwz hst).1 (by simp;omega)]
     cases gfr l k (many-(i+1)) true n q with
     | inl e=>rfl
     | inr r=>simp[gfI]
  ·rw[if_neg (by simp;omega),show many-i=0 from by omega]
   simp[qfq,gfr,gfI]
theorem qtz {F k many p:Nat}{l:qAq}{a:Int}(hF:20000≤F)(hl:Bit l)(hlm:l.length≤8192)(h1:1≤k)(h2:k≤16)(hm:many≤300)(hp:p≤l.length)(ha:Nd a) :
  qfO F (l.length:Int) (pk l) (p:Int) a (k:Int) (many:Int)=some (gfI [] (gfr l k many false a p)):=by
 unfold qfO
 exact qq9 hF hl hlm h1 h2 hm F 0 p a false [] (by omega) (by omega) hp ha (by simp;omega)
theorem qjK {F k:Nat}(hF:20000≤F)(h1:1≤k)(h2:k≤16){g:qAq}(hg:L40 g)(hgm:g.length≤300):∀ (j i:Nat) (o:qAq),g.length<j+i→i≤g.length→o.length+200*(g.length-i)≤100000 →
  ym F g (k:Int) j (o,(i:Int))=some (o++zes k (g.drop i))
 | 0,_,_,_,_,_=>by omega
 | j+1,i,o,h,hi,ho=>by
  show qct F g (k:Int) (ym F g (k:Int) j) o (i:Int)=_
  unfold qct
  by_cases hlt:i<g.length
  ·have hx:=hg _ (qx8 hlt)
   obtain ⟨x,hxe⟩:=qxK hx.1
   rw[if_pos (by simp;omega),qt,qxE hlt,qxI hlt,qgs,hxe,qxH]
   simp only[qxD]
   have hz:=qqT (n:=x) (k:=k) (by omega) h2
   rw[qpJ hF (by omega) h1 h2]
   simp only[qxD]
   rw[qT (by omega),qn (by omega)]
   simp only[qxD]
   rw[qjK hF h1 h2 hg hgm j (i+1) _ (by omega) (by omega) (by rw[qxF];omega),qxG]
  ·rw[if_neg (by simp;omega),qxN (by omega)]
   simp[qd5,zes]
theorem qof {k:Nat}(h2:k≤16):∀ {g:qAq},L40 g→(zes k g).length≤200*g.length
 | [],_=>by simp[zes]
 | x::g,hg=>by
  have hx:=hg x qx5
  have hz:=qqT (n:=x.toNat) (k:=k) (by omega) h2
  have:=qof h2 (g:=g) (fun y hy=>hg y (qxZ _ hy))
  rw[qgs,qxF,qxX];omega
theorem qkt {F k many:Nat}{l:qAq}(hF:20000≤F)(hl:Bit l)(hlm:l.length≤8192)(h1:1≤k)(h2:k≤16)(hm:many≤300):∀ (j p:Nat) (a:Int) (o:qAq),many<j+o.length→o.length≤many→p≤l.length→Nd a →
  vQ F l (k:Int) (many:Int) j ((p:Int),a,o)=some (gfI o (gfr l k (many-o.length) (decide (0<o.length)) a p))
 | 0,_,_,_,_,_,_,_=>by omega
 | j+1,p,a,o,h,ho,hp,ha=>by
  show qcT F l (k:Int) (many:Int) (vQ F l (k:Int) (many:Int) j) (p:Int) a o=_
  unfold qcT
  by_cases hlt:o.length<many
  ·rw[if_pos (by simp;omega),qpK hF hl hlm hp h1 h2,show many-o.length=(many-(o.length+1))+1 from by omega]
   simp only[qxD]
   unfold gfr
   rcases qu9 hl (k:=k) (p:=p) h1 with hz | ⟨g,q,hz,hg,hq⟩
   ·rw[if_pos hz,if_pos (by simpa using hz)]
    rfl
   ·rw[hz]
    simp only[ne_eq,not_true_eq_false,if_false,bne_self_eq_false,qxP,qxH]
    have hbe:(((o.length:Int)) == 0)=!(decide (0<o.length)):=by
     by_cases h0:0<o.length
     ·rw[decide_eq_true h0];simp;intro hh;subst hh;simp at h0
     ·rw[decide_eq_false h0];simp;exact List.length_eq_zero_iff.1 (by omega)
    rw[hbe,qks ha ⟨by omega,by omega⟩]
    simp only[qxD]
    cases hst:st (decide (0<o.length)) a (g:Int) with
    | none=>rfl
    | some n =>
     have hnd:=(qwz hst).1
     simp only
     rw[if_neg (by simp;exact hnd.1),qT (by simp;omega)]
     simp only[qxD]
     have hol:(o++[n]).length=o.length+1:=by simp
     rw[qkt hF hl hlm h1 h2 hm j q n (o++[n]) (by omega) (by omega) hq hnd,hol,decide_eq_true (show 0<o.length+1 by omega)]
     cases gfr l k (many-(o.length+1)) true n q with
     | inl e=>rfl
     | inr r=>simp[gfI]
  ·rw[if_neg (by simp;omega),show many-o.length=0 from by omega]
   simp[qeQ,gfr,gfI]
theorem qrn {a:Int}:((decide (a<0)) || (decide (1048576<a)))=!decide (Nd a):=by
 by_cases h:Nd a
 ·rw[decide_eq_true h];have:=h.1;have:=h.2;simp;omega
 ·rw[decide_eq_false h]
  unfold Nd at h
  simp;omega
theorem qny {l:qAq}{k:Nat}:∀ {m:Nat} {b:Bool} {a:Int} {p:Nat} {r:qAq×Nat},gfr l k m b a p=.inr r→r.1.length=m
 | 0,_,_,_,r,h=>by simp[gfr] at h;subst h;rfl
 | m+1,b,a,p,r,h=>by
  unfold gfr at h
  split at h
  ·simp at h
  ·split at h
   ·simp at h
   ·split at h
    ·simp at h
    ·rename_i r' hr
     simp only[Sum.inr.injEq] at h
     rw[← h]
     simp[qny hr]
theorem qw2 {b:Bool}{a n:Int}(ha:Nd a)(hn:Nd n)(hb:b=true→a<n):st b a (if b then n-a-1 else foldOf (n-a))=some n:=by
 have h1:=ha.1;have h2:=ha.2;have h3:=hn.1;have h4:=hn.2
 unfold st
 cases b with
 | true =>
  have:=hb rfl
  simp only[if_true]
  rw[if_neg (by omega),show a+(n-a-1)+1=n from by omega,if_pos hn]
 | false =>
  simp only[qxP,if_false]
  rw[qhv,show a+(n-a)=n from by omega,if_pos hn,if_neg]
  unfold foldOf;split <;> omega
theorem qs6:∀ {b:Bool} {a q:Int} {l:qAq},Nd a→Ris q l→(b=true→Ris a l)→bk b a (gp b a l)=some l
 | _,_,_,[],_,_,_=>rfl
 | b,a,q,n::l,ha,hr,hb=>by
  rw[gp,bk,qw2 ha hr.1 (fun h=>(hb h).2.1)]
  simp only[qxD]
  rw[qs6 hr.1 hr.2.2 (fun _=>hr.2.2)]
  rfl
theorem qis:∀ {q:Int} {l:qAq},Ris q l→∀ x∈l,Nd x
 | _,[],_=>by intro x hx;simp at hx
 | _,n::l,h=>by
  intro x hx
  rcases qxO.1 hx with rfl | hx
  ·exact h.1
  ·exact qis h.2.2 x hx
theorem qxw {n k:Nat}(hk:1≤k)(hk2:k≤16)(hn:n≤1099511627776)(p r:qAq):zq k (p++ze n k++r) p.length=((n:Int),((p.length+(ze n k).length:Nat):Int),0):=by
 unfold zq
 have a1:=qr9 n k
 have a2:=qsb (n:=n) hk
 have h40:=(qmK hn hk2).1
 have hd:(p++ze n k++r).drop p.length=un (zh n k)++(le (n+1-zf n k) (zt n k-zf n k)++r):=by
  rw[qxG,qzJ];unfold ze;rw[qxG]
 rw[hd,qwr]
 simp only
 rw[if_neg (by omega)]
 have:=qxj (n:=n+1-zf n k) (m:=zt n k-zf n k) (by omega) (p++un (zh n k)) r
 rw[qxF,qhu] at this
 have e:p++ze n k++r=p++un (zh n k)++le (n+1-zf n k) (zt n k-zf n k)++r:=by unfold ze;simp[qxG]
 have e2:2^(zh n k*k+k)-2^(zh n k*k)=zt n k-zf n k:=rfl
 rw[e,e2,qyF,this]
 have hdm:2^(zh n k*k)+(n+1-zf n k)-1=n:=by
  have:2^(zh n k*k)=zf n k:=rfl
  omega
 simp only[qyg,en,hdm]
 rw[if_neg (by omega)]
 unfold ze
 rw[qxF,qhu,qyF]
theorem qnz {k:Nat}(hk:1≤k)(hk2:k≤16):∀ {g rs:qAq} {b:Bool} {a:Int} (p r:qAq),L40 g→bk b a g=some rs→gfr (p++zes k g++r) k g.length b a p.length=.inr (rs,p.length+(zes k g).length)
 | [],rs,b,a,p,r,_,h=>by simp[bk] at h;subst h;simp[gfr,zes]
 | x::g,rs,b,a,p,r,hg,h=>by
  have hx:=hg x qx5
  obtain ⟨n,hn⟩:=qxK hx.1
  unfold bk at h
  cases hs:st b a x with
  | none=>rw[hs] at h;simp at h
  | some y =>
   rw[hs] at h
   simp only[qxD] at h
   cases hb:bk true y g with
   | none=>rw[hb] at h;simp at h
   | some rs' =>
    rw[hb] at h
    simp only[qyg,qxR] at h
    have hz:=qxw hk hk2 (n:=n) (by omega) p (zes k g++r)
    have e:p++zes k (x::g)++r=p++ze n k++(zes k g++r):=by rw[qgs,hn,qxH];simp[qxG]
    have ih:=qnz hk hk2 (p++ze n k) r (fun y hy=>hg y (qxZ _ hy)) hb
    have e2:p++ze n k++zes k g++r=p++ze n k++(zes k g++r):=by simp[qxG]
    rw[e2,qxF] at ih
    rw[e,qxX,gfr,hz]
    simp only[ne_eq,not_true_eq_false,if_false,qxH]
    rw[← hn,hs]
    simp only
    rw[ih,← h,qgs,hn,qxH,qxF,qyF]
theorem qk0 (l:qAq):(srt l).Perm l:=List.mergeSort_perm l _
theorem qqB (l:qAq):(srt l).Pairwise (·≤·):=by
 have h:=List.pairwise_mergeSort (le:=fun x y:Int=>decide (x≤y)) (fun a b c h1 h2=>by simp only[decide_eq_true_eq] at *;omega) (fun a b=>by simp only[qyC,decide_eq_true_eq];omega) l
 exact h.imp (fun h=>by simpa using h)
theorem qhs {l m:qAq}(hp:l.Perm m)(hm:m.Pairwise (·≤·)):srt l=m :=
 List.Perm.eq_of_pairwise (le:=fun x y:Int=>x≤y) (fun a b _ _ h1 h2=>by omega) (qqB l) hm ((qk0 l).trans hp)
theorem qkP {l:qAq}(h:l.Pairwise (·<·)):l.Pairwise (·≤·):=h.imp (fun h=>by omega)
theorem qkQ {l:qAq}(h:l.Pairwise (·<·)):l.Nodup:=h.imp (fun h=>by omega)
theorem qpc {l:qAq}(h:l.Pairwise (·≤·))(hn:l.Nodup):l.Pairwise (·<·):=by
 have:=List.Pairwise.and h hn
 exact this.imp (fun h=>by have h1:=h.1;have h2:=h.2;omega)
theorem qjz (xs:qAq):(Go.Lib.compact xs).length≤xs.length:=by
 unfold Go.Lib.compact Go.Lib.compactUpTo
 rw[qyB]
 exact qy3 (qzB _ _) (by simp)
theorem qme {xs:qAq}{j:Nat}(h0:0<j)(hj:j<xs.length):Go.Lib.keeps xs.toArray j=decide (xs[j]≠xs[j-1]):=by
 unfold Go.Lib.keeps
 have e1:xs.toArray[j]! = xs[j]:=by rw[getElem!_pos xs.toArray j (by simpa using hj)];simp
 have e2:xs.toArray[j-1]! = xs[j-1]:=by rw[getElem!_pos xs.toArray (j-1) (by simp;omega)];simp
 rw[e1,e2]
 have:j≠0:=by omega
 simp[this]
theorem qkn {xs:qAq}(h:xs.Pairwise (·<·)):Go.Lib.compact xs=xs:=by
 refine Go.Lib.compact_all _ fun j hj=>?_
 by_cases h0:j=0
 ·subst h0;simp[Go.Lib.keeps]
 ·rw[qme (by omega) hj]
  have:=qyQ.1 h (j-1) j (by omega) hj (by omega)
  simp;omega
theorem qno {xs:qAq}(h:xs.Pairwise (·≤·))(he:(Go.Lib.compact xs).length=xs.length):xs.Pairwise (·<·):=by
 unfold Go.Lib.compact Go.Lib.compactUpTo at he
 rw[qyB] at he
 have he':((qyr xs.length).filter (Go.Lib.keeps xs.toArray)).length=(qyr xs.length).length:=by rw[he];simp
 have hk:=List.length_filter_eq_length_iff.1 he'
 rw[qyQ]
 intro i j hi hj hij
 have h1:=hk j (by simpa using hj)
 rw[qme (by omega) hj] at h1
 have h2:xs[j]≠xs[j-1]:=by simpa using h1
 have h3:=qyQ.1 h (j-1) j (by omega) hj (by omega)
 have h4:xs[i]≤xs[j-1]:=by
  by_cases e:i=j-1
  ·subst e;omega
  ·exact qyQ.1 h i (j-1) hi (by omega) (by omega)
 omega
theorem jG:∀ {q:Int} {l:qAq},Ris q l→l.Pairwise (·<·)∧∀ z∈l,q<z
 | _,[],_=>by simp
 | q,x::l,h=>by
  obtain ⟨h1,h2⟩:=jG h.2.2
  have h3:=h.2.1
  refine ⟨qyJ.2 ⟨h2,h1⟩,fun z hz=>?_⟩
  rcases qxO.1 hz with rfl | hz
  ·exact h3
  ·have:=h2 z hz;omega
theorem qnW:∀ {q:Int} {l:qAq},l.Pairwise (·<·)→(∀ z∈l,q<z)→(∀ z∈l,Nd z)→Ris q l
 | _,[],_,_,_=>trivial
 | q,x::l,h,hq,hn=>⟨hn x (by simp),hq x (by simp),qnW (qyJ.1 h).2 (qyJ.1 h).1 fun z hz=>hn z (by simp[hz])⟩
def cmn (l r:qAq):Bool:=l.any fun x=>r.contains x
theorem qq0 {l r:qAq}:cmn l r=false↔∀ x∈l,x∉r:=by simp[cmn]
def mrg (l r:qAq):qAq×Int:=if cmn l r then ([],6) else if 300<l.length+r.length then ([],2) else (srt (l++r),0)
theorem qrb {F n:Nat}(h:n≤1000000):vK F ([]:qAq) 0 (n:Int)=some []:=by
 unfold vK lett
 rw[if_neg (by simp)]
 have e1:isub .i64 ((0:Nat):Int) (([]:qAq).length:Int)=0:=by decide
 rw[e1,qy (by omega) (by omega),Int.sub_zero]
 by_cases h0:n=0
 ·subst h0;rfl
 ·simp only
  rw[if_pos (by simp;omega)]
  have e2:sub ([]:qAq) 0 ((0:Nat):Int)=some []:=by decide
  have e3:appz 8796093022208 ([]:qAq) 0 (n:Int)=some (qxJ n 0):=by
   unfold appz
   rw[if_pos (by simp;omega)]
   simp
  rw[e2]
  simp only[qxD]
  rw[e3]
  simp only[qxD]
  have e4:sub (qxJ n (0:Int)) 0 ((([]:qAq).length:Nat):Int)=some []:=by
   have:=qi3 (l:=qxJ n (0:Int)) (i:=0) (j:=0) (by omega) (by omega)
   simpa using this
  rw[e4]
  rfl
theorem qsk {F:Nat}(hF:20000≤F){a b:qAq}(h:a.length+b.length≤1000000):zE F [a,b]=some (a++b):=by
 obtain ⟨k,rfl⟩:∃ k,F=k+3:=⟨F-3,by omega⟩
 have i0:idx [a,b] (0:Int)=some a:=rfl
 have i1:idx [a,b] (1:Int)=some b:=rfl
 have e0:iadd .i64 0 (a.length:Int)=(a.length:Int):=by rw[qw (by omega) (by omega)];omega
 have e1:iadd .i64 (a.length:Int) (b.length:Int)=((a.length+b.length:Nat):Int):=vg (by omega)
 have o1:iadd .i64 0 1=1:=by decide
 have o2:iadd .i64 1 1=2:=by decide
 have hs:ka (k+3) [a,b] ((a.length+b.length:Nat):Int)=some (a++b):=by
  unfold ka
  rw[qrb h]
  simp only[qxD]
  show qK (k+3) [a,b] (qR (k+3) [a,b] (k+2)) [] 0=_
  unfold qK
  rw[if_pos (by simp),i0]
  simp only[qxD]
  rw[qT (by simp;omega),o1]
  simp only[qxD,qxV]
  show qK (k+3) [a,b] (qR (k+3) [a,b] (k+1)) a 1=_
  unfold qK
  rw[if_pos (by simp),i1]
  simp only[qxD]
  rw[qT (by omega),o2]
  simp only[qxD]
  show qK (k+3) [a,b] (qR (k+3) [a,b] k) (a++b) 2=_
  unfold qK
  rw[if_neg (by simp)]
  rfl
 unfold zE
 show qL (k+3) [a,b] (qS (k+3) [a,b] (k+2)) 0 0=_
 unfold qL
 rw[if_pos (by simp),i0]
 simp only[qxD]
 rw[e0,if_neg (by simp),o1]
 show qL (k+3) [a,b] (qS (k+3) [a,b] (k+1)) (a.length:Int) 1=_
 unfold qL
 rw[if_pos (by simp),i1]
 simp only[qxD]
 rw[e1,if_neg (by simp;omega),o2]
 show qL (k+3) [a,b] (qS (k+3) [a,b] k) ((a.length+b.length:Nat):Int) 2=_
 unfold qL
 rw[if_neg (by simp)]
 exact hs
theorem qrV {l r:qAq}(hl:l.Pairwise (·<·))(hr:r.Pairwise (·<·)):(srt (l++r)).Pairwise (·<·)↔cmn l r=false:=by
 rw[qq0]
 constructor
 ·intro h x hx hx'
  have hn:(l++r).Nodup:=(qk0 _).nodup_iff.1 (qkQ h)
  exact (qyl.1 hn).2.2 x hx x hx' rfl
 ·intro h
  refine qpc (qqB _) ((qk0 _).nodup_iff.2 (qyl.2 ⟨qkQ hl,qkQ hr,fun a ha b hb e=>?_⟩))
  subst e
  exact h a ha hb
theorem qss {F:Nat}(hF:20000≤F){l r:qAq}(hl:l.Pairwise (·<·))(hr:r.Pairwise (·<·))(hm:l.length+r.length≤1000000) :
  ((zE F ([l,r]:List (qAq))).bind fun x16=>((zw F x16).bind fun x19=>(chk (decide (x19.length=x16.length)) (((vd F x19).bind fun x29=>((kr F x29).bind fun x32=>(if (decide ((x32.length:Int)<(x19.length:Int))) then some (([]:qAq),(6:Int)) else (if (decide (300<(x19.length:Int))) then some (([]:qAq),2) else some (x19,0)))))))))=some (mrg l r):=by
 rw[qsk hF hm]
 simp only[qxD]
 have hsl:(srt (l++r)).length=l.length+r.length:=by rw[qi1,qxF]
 unfold zw
 rw[if_pos (by rw[qxF];omega)]
 simp only[qxD]
 unfold chk
 rw[if_pos (by rw[qi1];simp)]
 unfold vd
 rw[qT (by rw[hsl];simp;omega)]
 simp only[qxD,qxV]
 unfold kr
 rw[if_pos (qjz _)]
 simp only[qxD]
 unfold mrg
 have hc:=qjz (srt (l++r))
 cases h:cmn l r
 ·have hp:=(qrV hl hr).2 h
  rw[qkn hp,if_neg (by simp),hsl,if_neg (show ¬ (false=true) by simp)]
  by_cases h3:300<l.length+r.length
  ·rw[if_pos (by simp;omega),if_pos h3]
  ·rw[if_neg (by simp;omega),if_neg h3]
 ·have hne:(Go.Lib.compact (srt (l++r))).length≠(srt (l++r)).length:=by
   intro he
   have:=(qrV hl hr).1 (qno (qqB _) he)
   rw[h] at this
   simp at this
  rw[if_pos (by simp only[decide_eq_true_eq];omega),if_pos rfl]
def cr:Int→qAq→Nat
 | _,[]=>0
 | v,y::t=>if y=v then 1+cr (v+1) t else 0
def rs:qAq→List (Int×Int)
 | []=>[]
 | x::t=>match rs t with
  | (y,n)::r=>if y=x+1 then (x,n+1)::r else (x,1)::(y,n)::r
  | []=>[(x,1)]
def rng:Int→Nat→qAq
 | _,0=>[]
 | a,n+1=>a::rng (a+1) n
def flat (R:List (Int×Int)):qAq:=R.flatMap fun r=>rng r.1 r.2.toNat
theorem qvk (v y:Int)(t:qAq):cr v (y::t)=if y=v then 1+cr (v+1) t else 0:=rfl
theorem qvQ (x:Int)(t:qAq):rs (x::t)=match rs t with
  | (y,n)::r=>if y=x+1 then (x,n+1)::r else (x,1)::(y,n)::r
  | []=>[(x,1)]:=rfl
theorem qth:∀ (v:Int) (t:qAq),cr v t≤t.length
 | _,[]=>qxY _
 | v,y::t=>by
  unfold cr
  have:=qth (v+1) t
  split
  ·rw[qxX];omega
  ·omega
theorem qtg:∀ (v:Int) (t:qAq) {j:Nat},j<cr v t→t[j]?=some (v+j)
 | _,[],_,h=>by simp[cr] at h
 | v,y::t,j,h=>by
  unfold cr at h
  split at h
  ·rename_i he
   cases j with
   | zero=>simp[he]
   | succ j =>
    rw[qzd,qtg (v+1) t (by omega)]
    congr 1;omega
  ·omega
theorem qtf:∀ (v:Int) (t:qAq) {y:Int},t[cr v t]?=some y→y≠v+cr v t
 | _,[],_,h=>by simp[cr] at h
 | v,x::t,y,h=>by
  unfold cr at h ⊢
  split at h
  ·rename_i he
   rw[if_pos he]
   rw[qy5 1,qzd] at h
   have:=qtf (v+1) t h
   omega
  ·rename_i he
   rw[if_neg he]
   simp at h
   omega
theorem qrN:∀ (x:Int) (t:qAq),rs (x::t)=(x,1+(cr (x+1) t:Int))::rs (t.drop (cr (x+1) t))
 | x,[]=>rfl
 | x,y::t=>by
  have ih:=qrN y t
  rw[qvQ,ih,qvk]
  simp only
  by_cases h:y=x+1
  ·subst h
   rw[if_pos rfl,if_pos rfl,qy5 1,List.drop_succ_cons]
   congr 2
  ·rw[if_neg h,if_neg h,qxT,ih]
   simp
theorem yQ:∀ (a:Int) (n:Nat),(rng a n).length=n
 | _,0=>rfl
 | a,n+1=>by rw[rng,qxX,yQ]
theorem qhm:∀ (a:Int) (n:Nat),rng a (n+1)=rng a n++[a+n]
 | a,0=>by simp[rng]
 | a,n+1=>by
  rw[rng,qhm (a+1) n,rng,qyU,show a+1+(n:Int)=a+((n+1:Nat):Int) from by omega]
theorem qrI:∀ {a:Int} {n j:Nat},j<n→(rng a n)[j]?=some (a+j)
 | _,0,_,h=>by omega
 | a,n+1,0,_=>by simp[rng]
 | a,n+1,j+1,h=>by
  rw[rng,qzd,qrI (Nat.lt_of_succ_lt_succ h),show a+1+(j:Int)=a+((j+1:Nat):Int) from by omega]
theorem qdU:∀ {a z:Int} {n:Nat},z∈rng a n↔a≤z∧z<a+n
 | a,z,0=>by simp[rng]
 | a,z,n+1=>by
  rw[rng,qxO,qdU]
  omega
theorem zF (r:Int×Int)(R:List (Int×Int)):flat (r::R)=rng r.1 r.2.toNat++flat R:=rfl
theorem qkq (A B:List (Int×Int)):flat (A++B)=flat A++flat B:=by unfold flat;rw[List.flatMap_append]
theorem qkr {R:List (Int×Int)}{z:Int}:z∈flat R↔∃ r∈R,r.1≤z∧z<r.1+r.2.toNat:=by
 unfold flat
 rw[List.mem_flatMap]
 constructor
 ·rintro ⟨r,h1,h2⟩;exact ⟨r,h1,qdU.1 h2⟩
 ·rintro ⟨r,h1,h2⟩;exact ⟨r,h1,qdU.2 h2⟩
def Sep:Int→List (Int×Int)→Prop
 | _,[]=>True
 | e,r::R=>e<r.1∧1≤r.2∧Sep (r.1+r.2) R
theorem quv {e e':Int}{R:List (Int×Int)}(h:Sep e R)(he:e'≤e):Sep e' R:=by
 cases R with
 | nil=>trivial
 | cons r R=>exact ⟨by have:=h.1;omega,h.2⟩
theorem qeF:∀ (l:qAq),flat (rs l)=l
 | []=>rfl
 | x::t=>by
  have ih:=qeF t
  unfold rs
  cases h:rs t with
  | nil =>
   rw[h] at ih
   simp only[zF]
   rw[ih]
   simp[rng]
  | cons p r =>
   obtain ⟨y,n⟩:=p
   rw[h] at ih
   simp only
   by_cases he:y=x+1
   ·rw[if_pos he]
    subst he
    rw[zF] at ih ⊢
    simp only at ih ⊢
    by_cases hn:0≤n
    ·rw[show (n+1).toNat=n.toNat+1 from by omega,rng,qyU,ih]
    ·exfalso
     have:∀ (l:qAq),∀ r∈rs l,1≤r.2:=by
      intro l
      induction l with
      | nil=>intro r hr;simp[rs] at hr
      | cons x t ih =>
       intro r hr
       unfold rs at hr
       cases h:rs t with
       | nil=>rw[h] at hr;simp at hr;rw[hr];simp
       | cons p q =>
        obtain ⟨y,n⟩:=p
        rw[h] at hr ih
        have hn:=ih (y,n) (by simp)
        simp only at hr hn
        split at hr
        ·rcases qxO.1 hr with rfl | hr
         ·simp only;omega
         ·exact ih r (by simp[hr])
        ·rcases qxO.1 hr with rfl | hr
         ·simp
         ·exact ih r hr
     have:=this t (x+1,n) (by rw[h];simp)
     simp only at this
     omega
   ·rw[if_neg he,zF,ih]
    simp[rng]
theorem qiv:∀ {q:Int} {l:qAq},l.Pairwise (·<·)→(∀ z∈l,q<z)→Sep q (rs l)
 | _,[],_,_=>trivial
 | q,x::t,h,hq=>by
  have h':=qyJ.1 h
  have ih:Sep x (rs t):=qiv h'.2 h'.1
  have hx:=hq x (by simp)
  unfold rs
  cases hr:rs t with
  | nil=>exact ⟨hx,by simp,trivial⟩
  | cons p r =>
   obtain ⟨y,n⟩:=p
   rw[hr] at ih
   obtain ⟨i1,i2,i3⟩:=ih
   simp only at i1 i2 i3 ⊢
   by_cases he:y=x+1
   ·rw[if_pos he]
    subst he
    refine ⟨hx,by simp only;omega,?_⟩
    simp only
    rw[show x+(n+1)=x+1+n from by omega]
    exact i3
   ·rw[if_neg he]
    exact ⟨hx,by simp,by simp only;omega,i2,i3⟩
theorem qqv:∀ {e:Int} {R:List (Int×Int)},Sep e R→∀ z∈flat R,e<z
 | _,[],_=>by simp[flat]
 | e,r::R,h=>by
  intro z hz
  rw[zF] at hz
  rcases qxL.1 hz with hz | hz
  ·have:=qdU.1 hz;have:=h.1;omega
  ·have:=qqv h.2.2 z hz;have:=h.1;have:=h.2.1;omega
theorem qui:∀ (a:Int) (n:Nat),(rng a n).Pairwise (·<·)
 | _,0=>List.Pairwise.nil
 | a,n+1=>qyJ.2 ⟨fun z hz=>by have:=qdU.1 hz;omega,qui (a+1) n⟩
theorem qqx:∀ {e:Int} {R:List (Int×Int)},Sep e R→(flat R).Pairwise (·<·)
 | _,[],_=>by simp[flat]
 | e,r::R,h=>by
  rw[zF,List.pairwise_append]
  refine ⟨qui _ _,qqx h.2.2,fun x hx y hy=>?_⟩
  have h1:=qdU.1 hx
  have h2:=qqv h.2.2 y hy
  have:=h.2.1
  omega
theorem qdo:∀ {e:Int} {R:List (Int×Int)} (p:Int×Int→Bool),Sep e R→Sep e (R.filter p)
 | _,[],_,_=>trivial
 | e,r::R,p,h=>by
  have ih:=qdo p h.2.2
  rw[qyV]
  split
  ·exact ⟨h.1,h.2.1,ih⟩
  ·exact quv ih (by have:=h.1;have:=h.2.1;omega)
theorem qjF (F:Nat){xs:qAq}(hm:xs.length≤1000000):∀ (k i:Nat),xs.length<k+i→i≤xs.length→k7 F xs xs k (i:Int)=some true
 | 0,_,_,_=>by omega
 | k+1,i,h,hi=>by
  show vS F xs xs (k7 F xs xs k) (i:Int)=_
  unfold vS
  by_cases hlt:i<xs.length
  ·rw[if_pos (by simp;omega),qt,qxE hlt]
   simp only[qxD]
   rw[if_neg (by simp),qn (by omega)]
   exact qjF F hm k (i+1) (by omega) (by omega)
  ·rw[if_neg (by simp;omega)];rfl
theorem qqu {F:Nat}{xs:qAq}(hF:xs.length<F)(hm:xs.length≤1000000):yZ F xs xs=some true:=by
 unfold yZ
 rw[if_neg (by simp)]
 exact qjF F hm F 0 (by omega) (by omega)
theorem qoX (F:Nat){l:qAq}{v:Int}(hm:l.length≤1000000):∀ (k i:Nat),l.length<k+i→i≤l.length→qa6 F l v k (i:Int)=some (decide (v∈l.drop i))
 | 0,_,_,_=>by omega
 | k+1,i,h,hi=>by
  show qei F l v (qa6 F l v k) (i:Int)=_
  unfold qei
  by_cases hlt:i<l.length
  ·rw[if_pos (by simp;omega),qt,qxE hlt,qxI hlt]
   simp only[qxD]
   by_cases he:l[i]=v
   ·rw[if_pos (by simpa using he)]
    simp[he]
   ·rw[if_neg (by simpa using he),qn (by omega),qoX F hm k (i+1) (by omega) (by omega)]
    have:(v∈l[i]::l.drop (i+1))↔v∈l.drop (i+1):=⟨fun hv=>(qxO.1 hv).resolve_left (fun e=>he e.symm),fun hv=>qxZ _ hv⟩
    rw[decide_eq_decide.2 this]
  ·rw[if_neg (by simp;omega),qxN (by omega)]
   simp[qf3]
theorem qds {F:Nat}{l:qAq}{v:Int}(hF:l.length<F)(hm:l.length≤1000000):qau F l v=some (decide (v∈l)):=by
 unfold qau
 have:=qoX F (v:=v) hm F 0 (by omega) (by omega)
 simpa using this
def qhL {σ τ:Type}(yy:σ→(Int×Int)→Option (σ ⊕ τ)):List (Int×Int)→σ→Option (σ ⊕ τ)
 | [],s=>some (.inl s)
 | r::R,s=>(yy s r).bind (Sum.elim (fun s'=>qhL yy R s') (fun t=>some (.inr t)))
def Mid (l:qAq):Prop:=∀ x∈l,-4611686018427387904≤x∧x≤4611686018427387904
theorem quq {σ τ:Type}{F:Nat}{yy:σ→(Int×Int)→Option (σ ⊕ τ)}{rec31:(Int×σ)→Option (σ ⊕ τ)}{l:qAq}{i:Nat}{x:Int}{s:σ}(hl:l.length≤1000000)(hm:Mid l)(hx:l[i]?=some x) :
  ∀ (k j:Nat),cr (x+1) (l.drop (i+1))<k+j→j≤cr (x+1) (l.drop (i+1)) →
   kN F yy rec31 l (i:Int) s k ((1+j:Nat):Int)=qbK F yy rec31 l (i:Int) s ((1+cr (x+1) (l.drop (i+1)):Nat):Int)
 | 0,_,_,_=>by omega
 | k+1,j,h,hj=>by
  have hi:=(qxQ.1 hx).1
  have hcl:=qth (x+1) (l.drop (i+1))
  rw[qx9] at hcl
  have hxm:=hm x (qxM hx)
  show qbJ F yy rec31 l (i:Int) s (kN F yy rec31 l (i:Int) s k) ((1+j:Nat):Int)=_
  unfold qbJ
  rw[vg (by omega)]
  by_cases hlt:i+(1+j)<l.length
  ·have hg:l[i+(1+j)]?=some l[i+(1+j)]:=qxE hlt
   have hd:(l.drop (i+1))[j]?=some l[i+(1+j)]:=by rw[qyt,show i+1+j=i+(1+j) from by omega];exact hg
   rw[if_pos (by simp;omega),qt,qt,hx,hg]
   simp only[qxD]
   rw[qw (by omega) (by omega)]
   unfold qbL
   by_cases hjc:j<cr (x+1) (l.drop (i+1))
   ·have:=qtg (x+1) (l.drop (i+1)) hjc
    rw[hd,qxR] at this
    rw[if_pos (by rw[this];simp;omega),qn (by omega),show 1+j+1=1+(j+1) from by omega]
    exact quq hl hm hx k (j+1) (by omega) (by omega)
   ·obtain rfl:j=cr (x+1) (l.drop (i+1)):=by omega
    have:=qtf (x+1) (l.drop (i+1)) hd
    rw[if_neg (by simp;omega)]
  ·obtain rfl:j=cr (x+1) (l.drop (i+1)):=by omega
   rw[if_neg (by simp;omega)]
   rfl
theorem qur {σ τ:Type}{F:Nat}{yy:σ→(Int×Int)→Option (σ ⊕ τ)}{l:qAq}(hl:l.length≤1000000)(hF:l.length+1<F)(hm:Mid l) :
  ∀ (k i:Nat) (s:σ),l.length<k+i→i≤l.length→q9 F yy l k ((i:Int),s)=qhL yy (rs (l.drop i)) s
 | 0,_,_,_,_=>by omega
 | k+1,i,s,h,hi=>by
  show qbI F yy l (q9 F yy l k) (i:Int) s=_
  unfold qbI
  by_cases hlt:i<l.length
  ·have hcl:=qth (l[i]+1) (l.drop (i+1))
   rw[qx9] at hcl
   have h1:=quq (F:=F) (yy:=yy) (rec31:=q9 F yy l k) (s:=s) hl hm (qxE hlt) F 0 (by omega) (by omega)
   rw[show ((1+0:Nat):Int)=1 from rfl] at h1
   rw[if_pos (by simp;omega),h1,qxI hlt,qrN]
   unfold qbK qhL
   rw[qt,qxE hlt]
   simp only[qxD]
   rw[vg (by omega),show ((1+cr (l[i]+1) (l.drop (i+1)):Nat):Int)=1+(cr (l[i]+1) (l.drop (i+1)):Int) from by omega]
   congr 2
   funext s'
   rw[qur hl hF hm k _ s' (by omega) (by omega),qAf]
   congr 3
   omega
  ·rw[if_neg (by simp;omega),qxN (by omega)]
   rfl
theorem qvR {σ τ:Type}{F:Nat}{yy:σ→(Int×Int)→Option (σ ⊕ τ)}{l:qAq}{s:σ}(hl:l.length≤1000000)(hF:l.length+1<F)(hm:Mid l):qcK F yy l s=qhL yy (rs l) s:=by
 unfold qcK
 exact qur hl hF hm F 0 s (by omega) (by omega)
def spO (least:Int)(R:List (Int×Int)):List (Int×Int):=R.filter fun r=>decide (least≤r.2)
def spS (least:Int)(R:List (Int×Int)):List (Int×Int):=R.filter fun r=>decide (r.2<least)
theorem quD {least:Int}{r:Int×Int}{R:List (Int×Int)}(h:least≤r.2):spO least (r::R)=r::spO least R:=by unfold spO;rw[qyV,if_pos (by simpa using h)]
theorem quC {least:Int}{r:Int×Int}{R:List (Int×Int)}(h:¬ least≤r.2):spO least (r::R)=spO least R:=by unfold spO;rw[qyV,if_neg (by simpa using h)]
theorem quF {least:Int}{r:Int×Int}{R:List (Int×Int)}(h:¬ least≤r.2):spS least (r::R)=r::spS least R:=by unfold spS;rw[qyV,if_pos (by simpa using h)]
theorem quE {least:Int}{r:Int×Int}{R:List (Int×Int)}(h:least≤r.2):spS least (r::R)=spS least R:=by unfold spS;rw[qyV,if_neg (by simpa using h)]
theorem qmw {F:Nat}{o:List (Int×Int)}{a n:Int}(ha:-4611686018427387904≤a∧a≤4611686018427387904)(hn:0≤n∧n≤1000000){rest:qAq}(hr:rest.length≤1000000):∀ (k j:Nat),n.toNat<k+j→j≤n.toNat →
  qbf F o a n k ((j:Int),rest++rng a j)=some (.inl (rest++rng a n.toNat,o))
 | 0,_,_,_=>by omega
 | k+1,j,h,hj=>by
  show qeD F o a n (qbf F o a n k) (j:Int) (rest++rng a j)=_
  unfold qeD
  by_cases hlt:j<n.toNat
  ·rw[if_pos (by simp;omega),qT (by simp[yQ];omega),qw (by omega) (by omega),qn (by omega)]
   simp only[qxD]
   rw[qxG,← qhm]
   exact qmw ha hn hr k (j+1) (by omega) (by omega)
  ·rw[if_neg (by simp;omega)]
   obtain rfl:j=n.toNat:=by omega
   rfl
def Small (R:List (Int×Int)):Prop:=∀ r∈R,(-4611686018427387904≤r.1∧r.1≤4611686018427387904)∧0≤r.2∧r.2≤1000000
def rawY (F:Nat)(least:Int)(s:qAq×List (Int×Int))(r:Int×Int):Option ((qAq×List (Int×Int)) ⊕ Empty):=qcJ F least s.1 s.2 r.1 r.2
theorem qjn {F:Nat}{least:Int}(hF:1000001<F):∀ (R:List (Int×Int)) (rest:qAq) (o:List (Int×Int)),Small R→rest.length+(flat R).length≤1000000→o.length+R.length≤1000000 →
  qhL (rawY F least) R (rest,o)=some (.inl (rest++flat (spS least R),o++spO least R))
 | [],rest,o,_,_,_=>by simp[qhL,spS,spO,flat]
 | (a,n)::R,rest,o,hs,h1,h2=>by
  have hr:=hs (a,n) (by simp)
  have hs':Small R:=fun r hr=>hs r (by simp[hr])
  rw[zF,qxF,yQ] at h1
  rw[qxX] at h2
  simp only at hr h1
  show ((qcJ F least rest o a n).bind _)=_
  unfold qcJ
  by_cases h:least≤n
  ·rw[if_pos (by simpa using h),qT (by simp;omega)]
   simp only[qxD,Sum.elim_inl]
   rw[qjn hF R _ _ hs' (by omega) (by simp;omega)]
   rw[quD (by exact h),quE (by exact h),qxG]
   rfl
  ·rw[if_neg (by simpa using h)]
   have hl:=qmw (F:=F) (o:=o) hr.1 hr.2 (rest:=rest) (by omega) F 0 (by omega) (by omega)
   rw[rng,qyv] at hl
   rw[show ((0:Nat):Int)=0 from rfl] at hl
   rw[hl]
   simp only[qxD,Sum.elim_inl]
   rw[qjn hF R _ _ hs' (by rw[qxF,yQ];omega) (by omega)]
   rw[quC (by exact h),quF (by exact h),zF,qxG]
theorem qum:∀ {q:Int} {R:List (Int×Int)},Sep q R→∀ r∈R,1≤r.2
 | _,[],_=>by simp
 | q,r::R,h=>by
  intro r' hr
  rcases qxO.1 hr with rfl | hr
  ·exact h.2.1
  ·exact qum h.2.2 r' hr
theorem qhz {R:List (Int×Int)}{r:Int×Int}(hr:r∈R):r.2.toNat≤(flat R).length:=by
 obtain ⟨A,B,rfl⟩:=List.append_of_mem hr
 rw[qkq,zF,qxF,qxF,yQ]
 omega
theorem qgk {q:Int}{R:List (Int×Int)}(h:Sep q R):R.length≤(flat R).length:=by
 induction R generalizing q with
 | nil=>simp
 | cons r R ih =>
  have:=ih h.2.2
  have:=h.2.1
  rw[zF,qxF,yQ,qxX]
  omega
theorem qrC {q:Int}{l:qAq}(h:Ris q l):Mid l:=fun x hx=>by have:=qis h x hx;unfold Nd at this;omega
theorem qun {q:Int}{l:qAq}(hl:l.length≤1000000)(h:Ris q l):Small (rs l):=by
 intro r hr
 have hs:=qiv (jG h).1 (jG h).2
 have h1:=qum hs r hr
 have h2:=qhz hr
 have hf:r.1∈flat (rs l):=qkr.2 ⟨r,hr,by omega,by omega⟩
 rw[qeF] at h2 hf
 have h3:=qrC h _ hf
 exact ⟨h3,by omega,by omega⟩
theorem qqt {F:Nat}(hF:2000000≤F){q:Int}{l:qAq}{least:Int}(hl:l.length≤300)(h:Ris q l):qgC F l least=some (spO least (rs l),flat (spS least (rs l))):=by
 unfold qgC qhb
 simp only[qxD]
 have hs:=qiv (jG h).1 (jG h).2
 have hlong:=qgk hs
 rw[qeF] at hlong
 have hf:=qjn (F:=F) (least:=least) (by omega) (rs l) [] [] (qun (by omega) h) (by rw[qeF];simp;omega) (by simp;omega)
 have he:=qvR (yy:=rawY F least) (s:=(([]:qAq),([]:List (Int×Int)))) (by omega) (by omega:l.length+1<F) (qrC h)
 rw[hf] at he
 show ((qcK F (rawY F least) l ([],[])).bind _)=_
 rw[he]
 simp
theorem qt4:∀ {A B:qAq},A.Pairwise (·<·)→B.Pairwise (·<·)→(∀ z,z∈A↔z∈B)→A=B
 | [],[],_,_,_=>rfl
 | [],s::B,_,_,h=>by have:=(h s).2 (by simp);simp at this
 | r::A,[],_,_,h=>by have:=(h r).1 (by simp);simp at this
 | r::A,s::B,hA,hB,h=>by
  obtain ⟨fA,pA⟩:=qyJ.1 hA
  obtain ⟨fB,pB⟩:=qyJ.1 hB
  have hrs:r=s:=by
   rcases qxO.1 ((h r).1 (by simp)) with h1 | h1
   ·exact h1
   ·rcases qxO.1 ((h s).2 (by simp)) with h2 | h2
    ·exact h2.symm
    ·have:=fA s h2;have:=fB r h1;omega
  subst hrs
  congr 1
  refine qt4 pA pB fun x=>⟨fun hx=>?_,fun hx=>?_⟩
  ·rcases qxO.1 ((h x).1 (by simp[hx])) with h1 | h1
   ·subst h1;have:=fA x hx;omega
   ·exact h1
  ·rcases qxO.1 ((h x).2 (by simp[hx])) with h1 | h1
   ·subst h1;have:=fB x hx;omega
   ·exact h1
theorem qvA {F:Nat}{x y:Int}:j3 F x y=some (decide (x<y)):=by
 unfold j3 qaY
 simp[jq]
theorem qvv {i j:Nat}(h:i+j<1000000000):iconv .i64 (ishr .u64 (iconv .u64 (iadd .i64 (i:Int) (j:Int))) 1)=(((i+j)/2:Nat):Int):=by
 rw[vg (by omega)]
 have e1:iconv .u64 ((i+j:Nat):Int)=((i+j:Nat):Int):=zG (by omega) (by omega)
 have e2:=qhB (k:=.u64) (a:=((i+j:Nat):Int)) (m:=1) (by decide)
 rw[show ((1:Nat):Int)=1 from rfl,show (2:Int)^1=2 from rfl] at e2
 rw[e1,e2]
 have e3:((i+j:Nat):Int)/2=(((i+j)/2:Nat):Int):=by omega
 rw[e3]
 exact qX (by omega) (by omega)
theorem qkX {F:Nat}{l:qAq}{v:Int}(hl:l.Pairwise (·<·))(hm:l.length≤100000):∀ (k i j:Nat),j<k+i→i≤j→j≤l.length→(∀ z∈l.take i,z<v)→(∀ z∈l.drop j,v≤z) →
  ∃ p,qC F l v k ((i:Int),(j:Int))=some (p,decide (v∈l))
 | 0,_,_,_,_,_,_,_=>by omega
 | k+1,i,j,h,hij,hj,h1,h2=>by
  show ∃ p,q7 F l v (qC F l v k) (i:Int) (j:Int)=_
  unfold q7
  by_cases hlt:i<j
  ·have hh:(i+j)/2<l.length:=by omega
   rw[if_pos (by simp;omega)]
   unfold lett
   rw[qvv (by omega)]
   simp only
   rw[qt,qxE hh]
   simp only[qxD]
   rw[qvA]
   simp only[qxD]
   by_cases hc:l[(i+j)/2]<v
   ·rw[decide_eq_true hc,if_pos rfl,qn (by omega)]
    refine qkX hl hm k ((i+j)/2+1) j (by omega) (by omega) hj (fun z hz=>?_) h2
    obtain ⟨q,hq⟩:=qzm hz
    have hq1:=(qxQ.1 hq).1
    rw[qx1] at hq1
    rw[List.getElem?_take_of_lt (by omega),qxE (by omega)] at hq
    simp only[qxR] at hq
    subst hq
    by_cases e:q=(i+j)/2
    ·subst e;exact hc
    ·have:=qyQ.1 hl q ((i+j)/2) (by omega) hh (by omega)
     omega
   ·rw[decide_eq_false hc,if_neg (by simp)]
    refine qkX hl hm k i ((i+j)/2) (by omega) (by omega) (by omega) h1 (fun z hz=>?_)
    obtain ⟨q,hq⟩:=qzm hz
    rw[qyt] at hq
    have hq1:=(qxQ.1 hq).1
    rw[qxE hq1] at hq
    simp only[qxR] at hq
    subst hq
    by_cases e:q=0
    ·subst e;simp only[qyO];omega
    ·have:=qyQ.1 hl ((i+j)/2) ((i+j)/2+q) hh (by omega) (by omega)
     omega
  ·obtain rfl:i=j:=by omega
   rw[if_neg (by simp)]
   unfold za
   by_cases hi:i<l.length
   ·have hd:l.drop i=l[i]::l.drop (i+1):=qxI hi
    have hmem:v∈l↔l[i]=v:=by
     constructor
     ·intro hv
      rw[← qyu i l] at hv
      rcases qxL.1 hv with hv | hv
      ·have:=h1 v hv;omega
      ·rw[hd] at hv
       rcases qxO.1 hv with hv | hv
       ·exact hv.symm
       ·have hp:=hl.sublist (List.drop_sublist i l)
        rw[hd] at hp
        have:=(qyJ.1 hp).1 v hv
        have:=h2 l[i] (by rw[hd];exact qx5 ..)
        omega
     ·intro hv;rw[← hv];exact qx8 hi
    rw[if_pos (by simp;omega),qt,qxE hi]
    simp only[qxD]
    by_cases he:l[i]=v
    ·rw[if_pos (by simpa using he),decide_eq_true (hmem.2 he)]
     exact ⟨_,rfl⟩
    ·rw[if_neg (by simpa using he),decide_eq_false (fun h=>he (hmem.1 h))]
     unfold yp
     simp only[qxD,bne_self_eq_false,qxP,if_false]
     exact ⟨_,rfl⟩
   ·rw[if_neg (by simp;omega)]
    have hn:v∉l:=by
     intro hv
     rw[List.take_of_length_le (by omega)] at h1
     have:=h1 v hv
     omega
    rw[decide_eq_false hn]
    exact ⟨_,rfl⟩
theorem qmx {F:Nat}(hF:200000≤F){l:qAq}{v:Int}(hl:l.Pairwise (·<·))(hm:l.length≤100000):∃ p,qI F l v=some (p,decide (v∈l)):=by
 unfold qI
 exact qkX hl hm F 0 l.length (by omega) (by omega) (qxY _) (by simp) (by simp)
def tb:Bool→Int→List Bool→qAq
 | _,_,[]=>[]
 | c,m,b::bs=>if b != c then m::tb b 1 bs else tb c (m+1) bs
theorem qhQ (c:Bool)(m:Int)(bs:List Bool):tb c m (c::bs)=tb c (m+1) bs:=by
 show (if c != c then _ else _)=_
 rw[if_neg (by simp)]
theorem qhR {c b:Bool}(h:b≠c)(m:Int)(bs:List Bool):tb c m (b::bs)=m::tb b 1 bs:=by
 show (if b != c then _ else _)=_
 rw[if_pos (by simpa using h)]
theorem qqL:∀ (c:Bool) (m:Int) (bs:List Bool),(tb c m bs).length≤bs.length
 | _,_,[]=>qxY _
 | c,m,b::bs=>by
  by_cases h:b=c
  ·subst h
   rw[qhQ]
   have:=qqL b (m+1) bs
   rw[qxX];omega
  ·rw[qhR h,qxX,qxX]
   have:=qqL b 1 bs
   omega
def hasB (l:qAq)(x:Int):Bool:=decide (x∈l)
def tbs (fr0 l:qAq):qAq:=tb true 0 (fr0.map (hasB l))
def rst (fr0 l:qAq):qAq:=l.filter fun x=>!hasB fr0 x
theorem qwX {F:Nat}{o:qAq}{c b:Bool}{m:Int}(ho:o.length≤1000000)(hm:0≤m∧m≤1000000):qaI F o c m b=some (if b != c then (o++[m],b,1) else (o,c,m+1)):=by
 unfold qaI
 by_cases h:b=c
 ·subst h
  rw[if_neg (by simp),if_neg (by simp)]
  unfold vJ
  rw[qw (by omega) (by omega)]
 ·rw[if_pos (by simpa using h),if_pos (by simpa using h),qT (by simp;omega)]
  rfl
theorem qjl {F:Nat}(hF:200000≤F){fr0 l o:qAq}(hf:fr0.Pairwise (·<·))(hfm:fr0.length≤300)(hm:l.length≤300):∀ (k i:Nat) (r:qAq),l.length<k+i→i≤l.length→r.length≤i →
  yU F fr0 l o k (r,(i:Int))=some (o,r++rst fr0 (l.drop i))
 | 0,_,_,_,_,_=>by omega
 | k+1,i,r,h,hi,hr=>by
  show qc9 F fr0 l o (yU F fr0 l o k) r (i:Int)=_
  unfold qc9
  by_cases hlt:i<l.length
  ·obtain ⟨p,hp⟩:=qmx hF (v:=l[i]) hf (by omega)
   rw[if_pos (by simp;omega),qt,qxE hlt,qxI hlt]
   simp only[qxD]
   rw[hp]
   simp only[qxD]
   unfold qdb rst
   rw[qyV,qn (by omega)]
   by_cases hc:l[i]∈fr0
   ·rw[if_neg (by simp[hc]),if_neg (by simp[hasB,hc])]
    exact qjl hF hf hfm hm k (i+1) r (by omega) (by omega) (by omega)
   ·rw[if_pos (by simp[hc]),if_pos (by simp[hasB,hc]),qT (by simp;omega)]
    simp only[qxD]
    rw[qjl hF hf hfm hm k (i+1) _ (by omega) (by omega) (by simp;omega),qxG]
    rfl
  ·rw[if_neg (by simp;omega),qxN (by omega)]
   simp[qfv,rst]
theorem qqn {F:Nat}(hF:200000≤F){fr0 l:qAq}(hf:fr0.Pairwise (·<·))(hl:l.Pairwise (·<·))(hfm:fr0.length≤300)(hm:l.length≤300):∀ (k i:Nat) (o:qAq) (c:Bool) (m:Int),fr0.length<k+i→i≤fr0.length→o.length≤i→0≤m∧m≤i →
  vY F fr0 l k ((i:Int),o,c,m)=some (o++tb c m ((fr0.drop i).map (hasB l)),rst fr0 l)
 | 0,_,_,_,_,_,_,_,_=>by omega
 | k+1,i,o,c,m,h,hi,ho,hmm=>by
  show qda F fr0 l (vY F fr0 l k) (i:Int) o c m=_
  unfold qda
  by_cases hlt:i<fr0.length
  ·obtain ⟨p,hp⟩:=qmx hF (v:=fr0[i]) hl (by omega)
   rw[if_pos (by simp;omega),qt,qxE hlt,qxI hlt,qyp]
   simp only[qxD]
   rw[hp]
   simp only[qxD]
   rw[qwX (by omega) (by omega)]
   simp only[qxD]
   rw[qn (by omega)]
   have hb:hasB l fr0[i]=decide (fr0[i]∈l):=rfl
   rw[← hb]
   by_cases hc:hasB l fr0[i]=c
   ·rw[if_neg (by simp[hc])]
    simp only
    rw[qqn hF hf hl hfm hm k (i+1) o c (m+1) (by omega) (by omega) (by omega) (by omega),hc,qhQ]
   ·rw[if_pos (by simpa using hc)]
    simp only
    rw[qqn hF hf hl hfm hm k (i+1) _ _ 1 (by omega) (by omega) (by simp;omega) (by omega),qhR hc,qxG]
    rfl
  ·rw[if_neg (by simp;omega),qxN (by omega)]
   unfold qfu
   have:=qjl hF (o:=o) hf hfm hm F 0 [] (by omega) (by omega) (by simp)
   rw[qxT,qxV] at this
   rw[show ((0:Nat):Int)=0 from rfl] at this
   rw[this]
   simp[tb]
theorem qkU {F:Nat}(hF:200000≤F){fr0 l o:qAq}(hfm:fr0.length≤300)(hm:l.length≤300):∀ (k i:Nat) (r:qAq),l.length<k+i→i≤l.length→r.length≤i →
  km F fr0 l o k (r,(i:Int))=some (o,r++rst fr0 (l.drop i))
 | 0,_,_,_,_,_=>by omega
 | k+1,i,r,h,hi,hr=>by
  show jK F fr0 l o (km F fr0 l o k) r (i:Int)=_
  unfold jK
  by_cases hlt:i<l.length
  ·rw[if_pos (by simp;omega),qt,qxE hlt,qxI hlt]
   simp only[qxD]
   rw[qds (by omega) (by omega)]
   simp only[qxD]
   unfold jM rst
   rw[qyV,qn (by omega)]
   by_cases hc:l[i]∈fr0
   ·rw[if_neg (by simp[hc]),if_neg (by simp[hasB,hc])]
    exact qkU hF hfm hm k (i+1) r (by omega) (by omega) (by omega)
   ·rw[if_pos (by simp[hc]),if_pos (by simp[hasB,hc]),qT (by simp;omega)]
    simp only[qxD]
    rw[qkU hF hfm hm k (i+1) _ (by omega) (by omega) (by simp;omega),qxG]
    rfl
  ·rw[if_neg (by simp;omega),qxN (by omega)]
   simp[qcD,rst]
theorem qwx {F:Nat}(hF:200000≤F){fr0 l:qAq}(hfm:fr0.length≤300)(hm:l.length≤300):∀ (k i:Nat) (o:qAq) (b:Nat),fr0.length<k+i→i≤fr0.length→o.length≤i→b≤i →
  zA F fr0 l k (o,(b:Int),(i:Int))=some (o++tb (if 0<i then hasB l (fr0.getD (i-1) 0) else true) ((i:Int)-b) ((fr0.drop i).map (hasB l)),rst fr0 l)
 | 0,_,_,_,_,_,_,_=>by omega
 | k+1,i,o,b,h,hi,ho,hb=>by
  show jL F fr0 l (zA F fr0 l k) o (b:Int) (i:Int)=_
  unfold jL
  by_cases hlt:i<fr0.length
  ·have hrec:=fun o b h1 h2=>qwx hF hfm hm (l:=l) k (i+1) o b (by omega) (by omega) h1 h2
   rw[if_pos (show 0<i+1 by omega)] at hrec
   have hg:fr0.getD (i+1-1) 0=fr0[i]:=by simp[qyH,qxE hlt]
   rw[hg] at hrec
   have hj:∀ w:Bool,yW F (zA F fr0 l k) fr0 l o (b:Int) (i:Int) w=some (o++tb w ((i:Int)-b) ((fr0.drop i).map (hasB l)),rst fr0 l):=by
    intro w
    unfold yW
    rw[qt,qxE hlt]
    simp only[qxD]
    rw[qds (by omega) (by omega)]
    simp only[qxD]
    have hb':decide (fr0[i]∈l)=hasB l fr0[i]:=rfl
    rw[hb',qxI hlt,qyp]
    unfold jN
    by_cases hc:hasB l fr0[i]=w
    ·rw[if_neg (by simp[hc]),qn (by omega),hrec o b (by omega) (by omega),hc,qhQ]
     congr 4;omega
    ·rw[if_pos (by simpa using hc),qnG (by omega) (by omega),qT (by simp;omega)]
     simp only[qxD]
     rw[qn (by omega),hrec _ i (by simp;omega) (by omega),qhR hc,qxG]
     rw[show ((i+1:Nat):Int)-(i:Int)=1 from by omega,show ((i-b:Nat):Int)=(i:Int)-b from by omega]
     rfl
   rw[if_pos (by simp;omega)]
   by_cases h0:0<i
   ·have hp:i-1<fr0.length:=by omega
    rw[if_pos (by simp;omega),yO (by omega) (by omega),qt,qxE hp]
    simp only[qxD]
    rw[qds (by omega) (by omega)]
    simp only[qxD]
    rw[hj,if_pos h0]
    have:fr0.getD (i-1) 0=fr0[i-1]:=by simp[qyH,qxE hp]
    rw[this];rfl
   ·rw[if_neg (by simp;omega),hj,if_neg h0]
  ·rw[if_neg (by simp;omega),qxN (by omega)]
   unfold qcC
   have:=qkU hF (fr0:=fr0) (o:=o) hfm hm F 0 [] (by omega) (by omega) (by simp)
   rw[qxT,qxV,show ((0:Nat):Int)=0 from rfl] at this
   rw[this]
   simp[tb]
theorem qqp {F:Nat}(hF:200000≤F){fr0 l:qAq}(hfm:fr0.length≤300)(hm:l.length≤300):qcW F fr0 l=some (tbs fr0 l,rst fr0 l):=by
 unfold qcW
 have:=qwx hF hfm hm F 0 [] 0 (by omega) (by omega) (by simp) (by omega)
 rw[qxT,qxV,if_neg (by omega),show ((0:Nat):Int)=0 from rfl] at this
 exact this
def okB:Bool→qAq→Bool
 | _,[]=>true
 | f,n::bs=>decide (0≤n) && (f || decide (1≤n)) && okB false bs
def bsum:qAq→Int
 | []=>0
 | n::bs=>n+bsum bs
theorem qgn (f:Bool)(n:Int)(bs:qAq):okB f (n::bs)=(decide (0≤n) && (f || decide (1≤n)) && okB false bs):=rfl
theorem qkI:∀ {f:Bool} {bs:qAq},okB f bs=true→(∀ n∈bs,0≤n)∧0≤bsum bs
 | _,[],_=>by simp[bsum]
 | f,n::bs,h=>by
  unfold okB at h
  simp only[qyi,decide_eq_true_eq] at h
  obtain ⟨h1,h2⟩:=qkI h.2
  refine ⟨fun m hm=>?_,?_⟩
  ·rcases qxO.1 hm with rfl | hm
   ·exact h.1.1
   ·exact h1 m hm
  ·unfold bsum;have:=h.1.1;omega
def ccE (L:Int)(f:Bool)(t:Int)(bs:qAq):Int:=if okB f bs then (if L<t+bsum bs then 8 else 0) else 3
theorem qqY (L:Int)(f:Bool)(t:Int):ccE L f t []=if L<t then 8 else 0:=by simp[ccE,okB,bsum]
theorem qjV {L:Int}{f:Bool}{t n:Int}{bs:qAq}(h:n<0∨(n<1∧f=false)):ccE L f t (n::bs)=3:=by
 unfold ccE okB
 rw[if_neg]
 simp only[qyi,qyC,decide_eq_true_eq]
 rcases h with h | ⟨h,rfl⟩
 ·omega
 ·simp;omega
theorem qta {L:Int}{f:Bool}{t n:Int}{bs:qAq}(h:¬ (n<0∨(n<1∧f=false))):ccE L f t (n::bs)=ccE L false (t+n) bs:=by
 have e:okB f (n::bs)=okB false bs:=by
  rw[qgn]
  cases f
  ·have h1:0≤n:=by omega
   have h2:1≤n:=by
    rcases Int.lt_or_le n 1 with h3 | h3
    ·exact absurd (.inr ⟨h3,rfl⟩) h
    ·exact h3
   simp[h1,h2]
  ·have h1:0≤n:=by omega
   simp[h1]
 unfold ccE
 rw[e]
 have:t+bsum (n::bs)=t+n+bsum bs:=by show t+(n+bsum bs)=_;omega
 rw[this]
theorem qnm {L:Int}{f:Bool}{t t':Int}{bs:qAq}(h:L<t)(h':L<t'):ccE L f t bs=ccE L f t' bs:=by
 unfold ccE
 by_cases ho:okB f bs=true
 ·have:=(qkI ho).2
  rw[if_pos ho,if_pos ho,if_pos (by omega),if_pos (by omega)]
 ·rw[if_neg ho,if_neg ho]
theorem qo7 {F:Nat}{bs:qAq}{L:Nat}(hL:L≤300)(hb:bs.length≤301):∀ (k i:Nat) (s:Int),bs.length<k+i→i≤bs.length→0≤s∧s≤L+1 →
  kM F bs (L:Int) k (s,(i:Int))=some (ccE L (decide (i=0)) s (bs.drop i))
 | 0,_,_,_,_,_=>by omega
 | k+1,i,s,h,hi,hs=>by
  show qbF F bs (L:Int) (kM F bs (L:Int) k) s (i:Int)=_
  unfold qbF
  by_cases hlt:i<bs.length
  ·rw[if_pos (by simp;omega),qt,qxE hlt,qxI hlt]
   simp only[qxD]
   have hrec:=fun s hs=>qo7 (F:=F) hL hb k (i+1) s (by omega) (by omega) hs
   rw[decide_eq_false (show ¬ i+1=0 by omega)] at hrec
   generalize bs[i]=n at hrec ⊢
   generalize bs.drop (i+1)=R at hrec ⊢
   unfold qbG
   by_cases h1:n<0
   ·rw[if_pos (by simpa using h1),if_pos rfl,qjV (.inl h1)]
   ·rw[if_neg (by simpa using h1)]
    by_cases h2:n<1∧0<i
    ·rw[if_pos (by simp;omega),qjV (.inr ⟨h2.1,decide_eq_false (by omega)⟩)]
    ·have h3:¬ (n<0∨(n<1∧decide (i=0)=false)):=by
      rintro (h | ⟨h,hd⟩)
      ·exact h1 h
      ·have:=of_decide_eq_false hd;omega
     rw[if_neg (by simp;omega),qta h3]
     unfold lett
     have em:imin n (iadd .i64 (L:Int) 1)=if n≤L then n else (L:Int)+1:=by
      rw[qw (by omega) (by omega)]
      unfold imin
      by_cases hn:n≤L
      ·rw[if_pos hn,if_neg (by omega)]
      ·rw[if_neg hn]
       by_cases hn2:(L:Int)+1<n
       ·rw[if_pos hn2]
       ·rw[if_neg hn2];omega
     rw[em,qn (by omega)]
     by_cases hn:n≤L
     ·rw[if_pos hn,qw (a:=s) (by omega) (by omega),qw (by omega) (by omega)]
      unfold imin
      by_cases hc:(L:Int)+1<s+n
      ·rw[if_pos hc]
       simp only
       rw[hrec _ (by omega),qnm (t':=s+n) (by omega) (by omega)]
      ·rw[if_neg hc]
       simp only
       rw[hrec _ (by omega)]
     ·rw[if_neg hn,qw (a:=s) (by omega) (by omega),qw (by omega) (by omega)]
      unfold imin
      by_cases hc:(L:Int)+1<s+(L+1)
      ·rw[if_pos hc]
       simp only
       rw[hrec _ (by omega),qnm (t':=s+n) (by omega) (by omega)]
      ·rw[if_neg hc]
       simp only
       rw[hrec _ (by omega),qnm (t':=s+n) (by omega) (by omega)]
  ·rw[if_neg (by simp;omega),qxN (by omega),qqY]
   unfold qdR
   by_cases h8:(L:Int)<s
   ·rw[if_pos (by simpa using h8),if_pos h8]
   ·rw[if_neg (by simpa using h8),if_neg h8]
def bkE (L:Nat)(bs:qAq):Int:=if L+1<bs.length then 2 else ccE L true 0 bs
theorem qsy {F:Nat}(hF:200000≤F){bs:qAq}{L:Nat}(hL:L≤300):qeB F bs (L:Int)=some (bkE L bs):=by
 unfold qeB bkE
 rw[qn (by omega)]
 by_cases h:L+1<bs.length
 ·rw[if_pos (by simp;omega),if_pos h]
 ·rw[if_neg (by simp;omega),if_neg h]
  exact qo7 hL (by omega) F 0 0 (by omega) (by omega) (by omega)
theorem qwC {L:Nat}{bs:qAq}:bkE L bs=0↔bs.length≤L+1∧okB true bs=true∧bsum bs≤L:=by
 unfold bkE ccE
 by_cases h:L+1<bs.length
 ·rw[if_pos h];simp;omega
 ·rw[if_neg h]
  by_cases h2:okB true bs=true
  ·rw[if_pos h2]
   by_cases h3:(L:Int)<0+bsum bs
   ·rw[if_pos h3];simp;omega
   ·rw[if_neg h3];simp[h2];omega
  ·rw[if_neg h2];simp[h2]
def cp:qAq→qAq→Bool→qAq
 | l,[],c=>if c then l else []
 | l,n::bs,c=>(if c then l.take n.toNat else [])++cp (l.drop n.toNat) bs (!c)
theorem qoK {F:Nat}{bs:qAq}(hbm:bs.length≤1000):∀ (k i:Nat) (l o:qAq) (c:Bool),bs.length<k+i→i≤bs.length→l.length≤300→o.length≤300*i→(∀ n∈bs.drop i,0≤n)→bsum (bs.drop i)≤l.length →
  kA F bs k (l,o,c,(i:Int))=some (o++cp l (bs.drop i) c)
 | 0,_,_,_,_,_,_,_,_,_,_=>by omega
 | k+1,i,l,o,c,h,hi,hl,ho,hn,hs=>by
  show qaG F bs (kA F bs k) l o c (i:Int)=_
  unfold qaG
  by_cases hlt:i<bs.length
  ·rw[qxI hlt] at hn hs ⊢
   have hrec:=fun l o c h1 h2 h3=>qoK (F:=F) hbm k (i+1) l o c (by omega) (by omega) h1 h2 (fun n hn'=>hn n (qxZ _ hn')) h3
   have hg:idx bs (i:Int)=some bs[i]:=by rw[qt,qxE hlt]
   rw[if_pos (by simp;omega),hg]
   have h0:=hn bs[i] (qx5 ..)
   have hsum:0≤bsum (bs.drop (i+1)):=by
    have:∀ (R:qAq),(∀ n∈R,0≤n)→0≤bsum R:=by
     intro R
     induction R with
     | nil=>intro _;simp[bsum]
     | cons x R ih=>intro h;unfold bsum;have:=h x (by simp);have:=ih (fun n hn=>h n (by simp[hn]));omega
    exact this _ fun n hn'=>hn n (qxZ _ hn')
   unfold bsum at hs
   generalize bs[i]=n at hrec h0 hs ⊢
   obtain ⟨m,rfl⟩:=qxK h0
   have hml:m≤l.length:=by omega
   have s1:=qi3 (l:=l) (i:=0) (j:=m) (by omega) hml
   have s2:=qi3 (l:=l) (i:=m) (j:=l.length) hml (qxY _)
   rw[qzq] at s2
   rw[show ((0:Nat):Int)=0 from rfl,qxT] at s1
   simp only[qxD]
   unfold qaH cp
   simp only[qxH]
   cases c
   ·rw[if_neg (by simp),if_neg (by simp),s2,qn (by omega)]
    simp only[qxD,qxV]
    exact hrec _ _ _ (by simp;omega) (by omega) (by rw[qx9];omega)
   ·rw[if_pos rfl,if_pos rfl,s1]
    simp only[qxD]
    rw[qT (by simp;omega),s2,qn (by omega)]
    simp only[qxD]
    rw[hrec _ _ _ (by simp;omega) (by simp;omega) (by rw[qx9];omega),qxG]
  ·rw[if_neg (by simp;omega),qxN (by omega)]
   unfold qdS qbH cp
   cases c
   ·simp
   ·rw[if_pos rfl,qT (by omega)];simp
def cpE (l bs:qAq):Int:=if gkc l≠0 then gkc l else bkE l.length bs
def cpy (l bs:qAq):qAq×Int:=if cpE l bs≠0 then ([],cpE l bs) else (cp l bs true,0)
theorem qp1 {l bs:qAq}:cpE l bs=0↔(l.length≤300∧Ris (-1) l)∧bs.length≤l.length+1∧okB true bs=true∧bsum bs≤l.length:=by
 unfold cpE
 rw[← zL,← qwC]
 by_cases h:gkc l=0
 ·rw[if_neg (by simp[h])];simp[h]
 ·rw[if_pos h];simp[h]
theorem qp2 {l bs:qAq}(h:cpE l bs=0):cpy l bs=(cp l bs true,0):=by unfold cpy;rw[if_neg (by simp[h])]
theorem qjW {l bs:qAq}(h:cpE l bs≠0):cpy l bs=([],cpE l bs):=by unfold cpy;rw[if_pos h]
theorem qra {l:qAq}(h:gkc l=0):l.length≤300:=(zL.1 h).1
theorem qvi {F:Nat}(hF:200000≤F){l bs:qAq}:qe4 F l bs=some (cpy l bs):=by
 unfold qe4
 rw[qgl (by omega)]
 simp only[qxD]
 have hj:qa0 F l bs (cpE l bs)=some (cpy l bs):=by
  unfold qa0
  by_cases h:cpE l bs=0
  ·obtain ⟨⟨h1,h2⟩,h3,h4,h5⟩:=qp1.1 h
   have:=qoK (F:=F) (bs:=bs) (by omega) F 0 l [] true (by omega) (by omega) h1 (by simp) (by rw[qxT];exact (qkI h4).1) (by rw[qxT];exact h5)
   rw[qxT,qxV,show ((0:Nat):Int)=0 from rfl] at this
   rw[if_neg (by simp[h]),qp2 h]
   unfold qfw
   rw[this];rfl
  ·rw[if_pos (by simpa using h),qjW h]
 by_cases h:gkc l=0
 ·have e:cpE l bs=bkE l.length bs:=by unfold cpE;rw[if_neg (by simp[h])]
  rw[if_pos (by simpa using h),qsy hF (qra h)]
  simp only[qxD]
  rw[← e];exact hj
 ·have e:cpE l bs=gkc l:=by unfold cpE;rw[if_pos h]
  rw[if_neg (by simpa using h)]
  rw[e] at hj;exact hj
def bo:qAq→Int→Nat
 | [],_=>0
 | n::bs,i=>if n≤i then 1+bo bs (i-n) else 0
theorem qxg {F:Nat}{rec181:(qAq×Int)→Option (qAq×Int)}{l bs o:qAq}{i:Nat}(hi:i≤1000)(hbm:bs.length≤1000)(hn:∀ n∈bs,0≤n∧n≤1000):∀ (k b:Nat) (e:Int),bs.length<k+b→b≤bs.length→0≤e∧e≤i →
  ky F rec181 l bs o (i:Int) k ((b:Int),e)=qaz F rec181 l o (i:Int) ((b+bo (bs.drop b) (i-e):Nat):Int)
 | 0,_,_,_,_,_=>by omega
 | k+1,b,e,h,hb,he=>by
  show qaw F rec181 l bs o (i:Int) (ky F rec181 l bs o (i:Int) k) (b:Int) e=_
  unfold qaw
  by_cases hlt:b<bs.length
  ·have h0:=hn bs[b] (qx8 hlt)
   have hg:idx bs (b:Int)=some bs[b]:=by rw[qt,qxE hlt]
   have hrec:=fun e he=>qxg (F:=F) (rec181:=rec181) (l:=l) (o:=o) hi hbm hn k (b+1) e (by omega) (by omega) he
   rw[if_pos (by simp;omega),hg,qxI hlt]
   generalize bs[b]=n at h0 hg ⊢
   simp only[qxD]
   unfold vA bo
   rw[qw (by omega) (by omega),hg]
   by_cases hc:e+n≤i
   ·rw[if_pos (by simpa using hc),if_pos (by omega)]
    simp only[qxD]
    rw[qn (by omega),qw (a:=e) (by omega) (by omega),hrec (e+n) (by omega)]
    rw[show b+1+bo (bs.drop (b+1)) (i-(e+n))=b+(1+bo (bs.drop (b+1)) (i-e-n)) from by rw[show (i:Int)-(e+n)=i-e-n from by omega];omega]
   ·rw[if_neg (by simpa using hc),if_neg (by omega)]
    rfl
  ·rw[if_neg (by simp;omega),qxN (by omega)]
   unfold vA
   rw[if_neg (by simp)]
   rfl
def kp (p:Nat→Bool):Nat→qAq→qAq
 | _,[]=>[]
 | i,x::t=>if p i then x::kp p (i+1) t else kp p (i+1) t
theorem qtG (p:Nat→Bool):∀ (i:Nat) (a b:qAq),kp p i (a++b)=kp p i a++kp p (i+a.length) b
 | i,[],b=>rfl
 | i,x::a,b=>by
  show (if p i then x::kp p (i+1) (a++b) else kp p (i+1) (a++b))=_
  rw[qtG p (i+1) a b,qxX,show i+1+a.length=i+(a.length+1) from by omega]
  show _=(if p i then x::kp p (i+1) a else kp p (i+1) a)++_
  split <;> rfl
theorem qo0 {p q:Nat→Bool}:∀ (i d:Nat) (l:qAq),(∀ j,i≤j→j<i+l.length→p (j+d)=q j)→kp p (i+d) l=kp q i l
 | _,_,[],_=>rfl
 | i,d,x::t,h=>by
  show (if p (i+d) then _ else _)=(if q i then _ else _)
  have h1:=h i (qxY _) (by simp)
  have h2:=qo0 (i+1) d t (fun j hj1 hj2=>h j (by omega) (by rw[qxX];omega))
  rw[h1,show i+d+1=i+1+d from by omega,h2]
theorem qkA {p:Nat→Bool}{c:Bool}:∀ (i:Nat) (l:qAq),(∀ j,i≤j→j<i+l.length→p j=c)→kp p i l=if c then l else []
 | _,[],_=>by cases c <;> rfl
 | i,x::t,h=>by
  have h1:=h i (qxY _) (by simp)
  have h2:=qkA (p:=p) (c:=c) (i+1) t (fun j hj1 hj2=>h j (by omega) (by rw[qxX];omega))
  show (if p i then _ else _)=_
  rw[h1,h2]
  cases c <;> simp
theorem qwp:∀ (bs l:qAq) (c:Bool),(∀ n∈bs,0≤n)→bsum bs≤l.length→cp l bs c=kp (fun i=>((bo bs (i:Int))%2 == 0) == c) 0 l
 | [],l,c,_,_=>by
  rw[qkA (c:=c) 0 l (fun j _ _=>by cases c <;> rfl)]
  rfl
 | n::bs,l,c,hn,hs=>by
  have h0:=hn n (by simp)
  have hnn:0≤bsum bs:=by
   have:∀ (R:qAq),(∀ n∈R,0≤n)→0≤bsum R:=by
    intro R
    induction R with
    | nil=>intro _;simp[bsum]
    | cons x R ih=>intro h;unfold bsum;have:=h x (by simp);have:=ih (fun n hn=>h n (by simp[hn]));omega
   exact this _ fun m hm=>hn m (by simp[hm])
  obtain ⟨m,rfl⟩:=qxK h0
  unfold bsum at hs
  have hml:m≤l.length:=by omega
  have ih:=qwp bs (l.drop m) (!c) (fun k hk=>hn k (by simp[hk])) (by rw[qx9];omega)
  unfold cp
  simp only[qxH]
  conv=>rhs;rw[← qyu m l,qtG]
  have hlt:(l.take m).length=m:=by rw[qx1];omega
  congr 1
  ·rw[qkA (c:=c) 0 (l.take m) (fun j _ hj=>by
    rw[hlt] at hj
    have:bo ((m:Int)::bs) (j:Int)=0:=by unfold bo;rw[if_neg (by omega)]
    rw[this];cases c <;> rfl)]
  ·rw[ih,hlt]
   refine (qo0 0 m (l.drop m) fun j _ _=>?_).symm
   have:bo ((m:Int)::bs) ((j+m:Nat):Int)=1+bo bs (j:Int):=by
    show (if (m:Int)≤((j+m:Nat):Int) then 1+bo bs (((j+m:Nat):Int)-m) else 0)=_
    rw[if_pos (by omega),show ((j+m:Nat):Int)-m=(j:Int) from by omega]
   rw[this]
   generalize bo bs (j:Int)=q
   rcases Nat.mod_two_eq_zero_or_one q with h | h
   ·rw[h,show (1+q)%2=1 from by omega];cases c <;> rfl
   ·rw[h,show (1+q)%2=0 from by omega];cases c <;> rfl
theorem qrz {F:Nat}(hF:200000≤F){l bs:qAq}(hlm:l.length≤300)(hbm:bs.length≤1000)(hn:∀ n∈bs,0≤n∧n≤1000):∀ (k i:Nat) (o:qAq),l.length<k+i→i≤l.length→o.length≤i →
  qO F l bs k (o,(i:Int))=some (o++kp (fun i=>((bo bs (i:Int))%2 == 0) == true) i (l.drop i),0)
 | 0,_,_,_,_,_=>by omega
 | k+1,i,o,h,hi,ho=>by
  show qav F l bs (qO F l bs k) o (i:Int)=_
  unfold qav
  by_cases hlt:i<l.length
  ·have hb:=qxg (F:=F) (rec181:=qO F l bs k) (l:=l) (o:=o) (i:=i) (by omega) hbm hn F 0 0 (by omega) (by omega) (by omega)
   rw[qxT,qyj,Int.sub_zero,show ((0:Nat):Int)=0 from rfl] at hb
   have hrec:=fun o h=>qrz hF hlm hbm hn k (i+1) o (by omega) (by omega) h
   rw[if_pos (by simp;omega),hb,qxI hlt]
   unfold qaz qay kp
   rw[qrg (by omega),qt,qxE hlt,qn (by omega)]
   simp only[qxD]
   generalize bo bs (i:Int)=q
   rcases Nat.mod_two_eq_zero_or_one q with hq | hq
   ·rw[if_pos (by simp;omega),qT (by simp;omega),if_pos (by rw[hq];rfl)]
    simp only[qxD]
    rw[hrec _ (by simp;omega),qxG]
    rfl
   ·rw[if_neg (by simp;omega),if_neg (by rw[hq];decide),hrec _ (by omega)]
  ·rw[if_neg (by simp;omega),qxN (by omega)]
   simp[qdi,kp]
theorem qua {F:Nat}{l bs:qAq}(hlm:l.length≤300)(hbm:bs.length≤301):∀ (k i:Nat) (s t:Int),bs.length<k+i→i≤bs.length→(0≤t∧(s=t∧t≤2000∨1000≤s∧s≤2000∧(l.length:Int)<t)) →
  zK F l bs k (s,(i:Int))=if ccE l.length (decide (i=0)) t (bs.drop i)≠0 then some ([],ccE l.length (decide (i=0)) t (bs.drop i)) else qO F l bs F ([],0)
 | 0,_,_,_,_,_,_=>by omega
 | k+1,i,s,t,h,hi,hs=>by
  show qax F l bs (zK F l bs k) s (i:Int)=_
  unfold qax
  by_cases hlt:i<bs.length
  ·have hg:idx bs (i:Int)=some bs[i]:=by rw[qt,qxE hlt]
   have hrec:=fun s t hs=>qua (F:=F) hlm hbm k (i+1) s t (by omega) (by omega) hs
   rw[decide_eq_false (show ¬ i+1=0 by omega)] at hrec
   rw[if_pos (by simp;omega),hg,qxI hlt]
   generalize bs[i]=n at hg ⊢
   generalize bs.drop (i+1)=R at hrec ⊢
   simp only[qxD]
   unfold qaB
   by_cases h1:n<0
   ·rw[if_pos (by simpa using h1),if_pos rfl,qjV (.inl h1),if_pos (by decide)]
   ·rw[if_neg (by simpa using h1)]
    by_cases h2:n<1∧0<i
    ·rw[if_pos (by simp;omega),qjV (.inr ⟨h2.1,decide_eq_false (by omega)⟩),if_pos (by decide)]
    ·have h3:¬ (n<0∨(n<1∧decide (i=0)=false)):=by
      rintro (h | ⟨h,hd⟩)
      ·exact h1 h
      ·have:=of_decide_eq_false hd;omega
     rw[if_neg (by simp;omega),qta h3,hg]
     simp only[qxD]
     unfold qaC qaA
     rw[hg,qn (by omega)]
     by_cases hL:(l.length:Int)<n
     ·rw[if_pos (by simpa using hL),if_neg (by decide)]
      exact hrec 1000 (t+n) ⟨by omega,.inr ⟨by omega,by omega,by omega⟩⟩
     ·rw[if_neg (by simpa using hL)]
      by_cases hs1:s<1000
      ·rw[if_pos (by simpa using hs1)]
       simp only[qxD]
       rw[qw (by omega) (by omega)]
       exact hrec (s+n) (t+n) ⟨by omega,.inl ⟨by omega,by omega⟩⟩
      ·rw[if_neg (by simpa using hs1)]
       exact hrec s (t+n) ⟨by omega,.inr ⟨by omega,by omega,by omega⟩⟩
  ·rw[if_neg (by simp;omega),qxN (by omega),qqY]
   unfold qdz
   by_cases h8:(l.length:Int)<s
   ·rw[if_pos (by simpa using h8),if_pos (show (l.length:Int)<t by omega),if_pos (by decide)]
   ·rw[if_neg (by simpa using h8),if_neg (show ¬ (l.length:Int)<t by omega),if_neg (by simp)]
theorem qub {F:Nat}(hF:200000≤F){l bs:qAq}:qem F l bs=some (cpy l bs):=by
 unfold qem
 rw[qhJ (by omega)]
 simp only[qxD]
 by_cases h:gkc l=0
 ·have hlm:=qra h
  have e:cpE l bs=bkE l.length bs:=by unfold cpE;rw[if_neg (by simp[h])]
  rw[if_neg (by simp[h]),qn (by omega)]
  by_cases h2:l.length+1<bs.length
  ·have e2:bkE l.length bs=2:=by unfold bkE;rw[if_pos h2]
   rw[if_pos (by simp;omega),qjW (by rw[e,e2];decide),e,e2]
  ·have e2:bkE l.length bs=ccE l.length true 0 bs:=by unfold bkE;rw[if_neg h2]
   have hc:=qua (F:=F) (l:=l) (bs:=bs) hlm (by omega) F 0 0 0 (by omega) (by omega) ⟨by omega,.inl ⟨rfl,by omega⟩⟩
   rw[qxT,show ((0:Nat):Int)=0 from rfl,decide_eq_true (rfl:0=0),← e2,← e] at hc
   rw[if_neg (by simp;omega),hc]
   by_cases h3:cpE l bs=0
   ·obtain ⟨_,q1,q2,q3⟩:=qp1.1 h3
    obtain ⟨n1,n2⟩:=qkI q2
    have hle:∀ (R:qAq),(∀ n∈R,0≤n)→∀ n∈R,n≤bsum R:=by
     intro R
     induction R with
     | nil=>intro _ n hn;simp at hn
     | cons x R ih =>
      intro h n hn
      have hx:=h x (by simp)
      have hR:0≤bsum R:=by
       have:∀ (R:qAq),(∀ n∈R,0≤n)→0≤bsum R:=by
        intro R
        induction R with
        | nil=>intro _;simp[bsum]
        | cons x R ih=>intro h;unfold bsum;have:=h x (by simp);have:=ih (fun n hn=>h n (by simp[hn]));omega
       exact this R fun n hn=>h n (by simp[hn])
      unfold bsum
      rcases qxO.1 hn with rfl | hn
      ·omega
      ·have:=ih (fun n hn=>h n (by simp[hn])) n hn;omega
    have:=qrz hF hlm (bs:=bs) (by omega) (fun n hn=>⟨n1 n hn,by have:=hle bs n1 n hn;omega⟩) F 0 [] (by omega) (by omega) (by simp)
    rw[qxT,qxV,show ((0:Nat):Int)=0 from rfl] at this
    rw[if_neg (by simp[h3]),this,qp2 h3,qwp bs l true n1 q3]
   ·rw[if_pos h3,qjW h3]
 ·have e:cpE l bs=gkc l:=by unfold cpE;rw[if_pos h]
  rw[if_pos (by simpa using h),qjW (by rw[e];exact h),e]
theorem qrQ:∀ {e:Int} {R:List (Int×Int)},Sep e R→∀ r∈R,e<r.1
 | _,[],_=>by simp
 | e,r::R,h=>by
  intro r' hr
  rcases qxO.1 hr with rfl | hr
  ·exact h.1
  ·have:=qrQ h.2.2 r' hr;have:=h.1;have:=h.2.1;omega
def Mx (l:qAq)(r:Int×Int):Prop:=1≤r.2∧r.1-1∉l∧r.1+r.2∉l∧∀ z,r.1≤z→z<r.1+r.2→z∈l
theorem qqw:∀ {e:Int} {R:List (Int×Int)},Sep e R→∀ r∈R,Mx (flat R) r
 | _,[],_=>by simp
 | e,r::R,h=>by
  intro r' hr
  have h1:=h.2.1
  have hlt:=qqv h.2.2
  rcases qxO.1 hr with rfl | hr
  ·refine ⟨h1,fun hm=>?_,fun hm=>?_,fun z h2 h3=>?_⟩
   ·rw[zF] at hm
    rcases qxL.1 hm with hm | hm
    ·have:=qdU.1 hm;omega
    ·have:=hlt _ hm;omega
   ·rw[zF] at hm
    rcases qxL.1 hm with hm | hm
    ·have:=qdU.1 hm;omega
    ·have:=hlt _ hm;omega
   ·rw[zF]
    exact qxL.2 (.inl (qdU.2 (by omega)))
  ·obtain ⟨i1,i2,i3,i4⟩:=qqw h.2.2 r' hr
   have hf:=qrQ h.2.2 r' hr
   refine ⟨i1,fun hm=>?_,fun hm=>?_,fun z h2 h3=>?_⟩
   ·rw[zF] at hm
    rcases qxL.1 hm with hm | hm
    ·have:=qdU.1 hm;omega
    ·exact i2 hm
   ·rw[zF] at hm
    rcases qxL.1 hm with hm | hm
    ·have:=qdU.1 hm;omega
    ·exact i3 hm
   ·rw[zF]
    exact qxL.2 (.inr (i4 z h2 h3))
theorem rdown {x a:Int}(hF:1000000<F)(hl:l.length≤1000000)(ha:-1000000000≤a∧a≤1000000000)(h0:a-1∉l):∀ (j k:Nat),j<k→j≤1000000→(∀ z,a≤z→z<a+j→z∈l) →
  kI F rec68 l least o rest i x k (a+j)=qbr F rec68 l least o rest i x a
 | _,0,h,_,_=>by omega
 | 0,k+1,_,_,_=>by
  show yF F rec68 l least o rest i x (kI F rec68 l least o rest i x k) (a+((0:Nat):Int))=_
  unfold yF
  rw[show a+((0:Nat):Int)=a from by omega,qy (by omega) (by omega),qds (by omega) hl,decide_eq_false h0]
  rfl
 | j+1,k+1,h,hj,hz=>by
  show yF F rec68 l least o rest i x (kI F rec68 l least o rest i x k) (a+((j+1:Nat):Int))=_
  unfold yF
  rw[qy (by omega) (by omega),show a+((j+1:Nat):Int)-1=a+(j:Int) from by omega,qds (by omega) hl,decide_eq_true (hz _ (by omega) (by omega))]
  exact rdown hF hl ha h0 j k (by omega) (by omega) (fun z h1 h2=>hz z h1 (by omega))
theorem rup {b fr0:Int}(hF:1000000<F)(hl:l.length≤1000000)(hb:-1000000000≤b∧b≤1000000000)(h0:b+1∉l):∀ (j k:Nat),j<k→j≤1000000→(∀ z,b-j<z→z≤b→z∈l) →
  kH F rec68 l least o rest i fr0 k (b-j)=qbs F rec68 l least o rest i fr0 b
 | _,0,h,_,_=>by omega
 | 0,k+1,_,_,_=>by
  show yE F rec68 l least o rest i fr0 (kH F rec68 l least o rest i fr0 k) (b-((0:Nat):Int))=_
  unfold yE
  rw[show b-((0:Nat):Int)=b from by omega,qw (by omega) (by omega),qds (by omega) hl,decide_eq_false h0]
  rfl
 | j+1,k+1,h,hj,hz=>by
  show yE F rec68 l least o rest i fr0 (kH F rec68 l least o rest i fr0 k) (b-((j+1:Nat):Int))=_
  unfold yE
  rw[qw (by omega) (by omega),show b-((j+1:Nat):Int)+1=b-(j:Int) from by omega,qds (by omega) hl,decide_eq_true (hz _ (by omega) (by omega))]
  exact rup hF hl hb h0 j k (by omega) (by omega) (fun z h1 h2=>hz z (by omega) h2)
def oj (least:Int)(o:List (Int×Int))(r:Int×Int)(j:Nat):List (Int×Int):=if least≤r.2∧0<j then o++[r] else o
def rj (least:Int)(rest:qAq)(r:Int×Int)(j:Nat):qAq:=if least≤r.2 then rest else rest++rng r.1 j
theorem rstep {F:Nat}{l:qAq}{least:Int}{o:List (Int×Int)}{rest:qAq}{r:Int×Int}(hF:1000000<F)(hl:l.length≤300)(hr:Mx l r)(ha:-1000000≤r.1∧r.1≤10000000)(hn:r.2≤300)(hlm:o.length+rest.length≤1000000){i j k:Nat}(hj:j<r.2.toNat)(hi:l[i]?=some (r.1+j)) :
  qz F l least (k+1) (oj least o r j,rj least rest r j,(i:Int))=qz F l least k (oj least o r (j+1),rj least rest r (j+1),((i+1:Nat):Int)):=by
 obtain ⟨h1,h2,h3,h4⟩:=hr
 obtain ⟨a,n⟩:=r
 simp only at h1 h2 h3 h4 ha hn hj hi
 have hil:=(qxQ.1 hi).1
 show yD F l least (qz F l least k) (oj least o (a,n) j) (rj least rest (a,n) j) (i:Int)=_
 unfold yD
 rw[if_pos (by simp;omega),qt,hi]
 simp only[qxD]
 rw[rdown hF (by omega) (by omega) h2 j F (by omega) (by omega) (fun z z1 z2=>h4 z z1 (by omega))]
 unfold qbr
 rw[show a+(j:Int)=(a+n-1)-((n.toNat-1-j:Nat):Int) from by omega,rup hF (by omega) (by omega) (by rw[show a+n-1+1=a+n from by omega];exact h3) _ F (by omega) (by omega) (fun z z1 z2=>h4 z (by omega) (by omega))]
 unfold qbs
 rw[qy (by omega) (by omega),qw (by omega) (by omega),show a+n-1-a+1=n from by omega,qt,hi]
 simp only[qxD]
 unfold oj rj jf
 simp only
 by_cases hc:least≤n
 ·rw[if_neg (by simp;omega)]
  by_cases hj0:j=0
  ·subst hj0
   rw[if_pos (by simp),if_pos hc,if_neg (by simp),if_pos ⟨hc,by omega⟩,if_pos hc,qT (by simp;omega),qn (by omega)]
   rfl
  ·rw[if_neg (by simp;omega),if_pos hc,if_pos ⟨hc,by omega⟩,if_pos ⟨hc,by omega⟩,if_pos hc,qn (by omega)]
 ·rw[if_pos (by simp;omega),if_neg hc,if_neg (by omega),if_neg (by omega),if_neg hc,qT (by simp[yQ];omega),qn (by omega)]
  simp only[qxD]
  rw[qxG,← qhm]
theorem rrun {F:Nat}{l:qAq}{least:Int}{o:List (Int×Int)}{rest:qAq}{r:Int×Int}(hF:1000000<F)(hl:l.length≤300)(hr:Mx l r)(ha:-1000000≤r.1∧r.1≤10000000)(hn:r.2≤300)(hlm:o.length+rest.length≤1000000){i k:Nat}(hi:∀ j,j<r.2.toNat→l[i+j]?=some (r.1+j)) :
  ∀ (m j:Nat),j+m=r.2.toNat→qz F l least (k+m) (oj least o r j,rj least rest r j,((i+j:Nat):Int))=qz F l least k (oj least o r r.2.toNat,rj least rest r r.2.toNat,((i+r.2.toNat:Nat):Int))
 | 0,j,h=>by rw[← h];rfl
 | m+1,j,h=>by
  rw[← qyF,rstep hF hl hr ha hn hlm (by omega) (hi j (by omega))]
  exact rrun hF hl hr ha hn hlm hi m (j+1) (by omega)
theorem rall {F:Nat}{l:qAq}{least:Int}(hF:1000000<F)(hl:l.length≤300):∀ (R:List (Int×Int)) (o:List (Int×Int)) (rest:qAq) (i k:Nat),(∀ r∈R,Mx l r∧(-1000000≤r.1∧r.1≤10000000)∧r.2≤300)→l.drop i=flat R→i≤l.length→o.length+R.length+(rest.length+(flat R).length)≤1000000 →
  qz F l least (k+1+(flat R).length) (o,rest,(i:Int))=some (o++spO least R,rest++flat (spS least R))
 | [],o,rest,i,k,_,hd,hi,_=>by
  have:l.length≤i:=by
   have:=congrArg List.length hd
   rw[qx9] at this
   simp[flat] at this
   omega
  show yD F l least (qz F l least k) o rest (i:Int)=_
  unfold yD
  rw[if_neg (by simp;omega)]
  simp[qdC,spO,spS,flat]
 | r::R,o,rest,i,k,hR,hd,hi,hlm=>by
  obtain ⟨h1,h2,h3⟩:=hR r (by simp)
  have hn:=h1.1
  rw[zF,qxF,yQ,qxX] at hlm
  rw[zF] at hd
  have hget:∀ j,j<r.2.toNat→l[i+j]?=some (r.1+j):=by
   intro j hj
   rw[← qyt,hd,qyP (by rw[yQ];exact hj),qrI hj]
  have hrun:=rrun (least:=least) (o:=o) (rest:=rest) (k:=k+1+(flat R).length) hF hl h1 h2 h3 (by omega) hget r.2.toNat 0 (by omega)
  have e1:oj least o r 0=o:=by unfold oj;rw[if_neg (by omega)]
  have e2:rj least rest r 0=rest:=by unfold rj;split <;> simp[rng]
  rw[e1,e2,show i+0=i from rfl] at hrun
  rw[zF,qxF,yQ,show k+1+(r.2.toNat+(flat R).length)=k+1+(flat R).length+r.2.toNat from by omega,hrun]
  have hd':l.drop (i+r.2.toNat)=flat R:=by
   rw[← qAf,hd,List.drop_left' (yQ _ _)]
  have hlen:i+r.2.toNat≤l.length:=by
   have:=congrArg List.length hd
   rw[qx9,qxF,yQ] at this
   omega
  have hlo:(oj least o r r.2.toNat).length+R.length+((rj least rest r r.2.toNat).length+(flat R).length)≤1000000:=by
   unfold oj rj
   by_cases hc:least≤r.2
   ·rw[if_pos ⟨hc,by omega⟩,if_pos hc];simp;omega
   ·rw[if_neg (by omega),if_neg hc];simp[yQ];omega
  rw[rall hF hl R _ _ _ k (fun r' hr'=>hR r' (by simp[hr'])) hd' hlen hlo]
  unfold oj rj
  by_cases hc:least≤r.2
  ·rw[if_pos ⟨hc,by omega⟩,if_pos hc,quD hc,quE hc,qxG];rfl
  ·rw[if_neg (by omega),if_neg hc,quC hc,quF hc,zF,qxG]
theorem qsF {F:Nat}(hF:2000000≤F){q:Int}{l:qAq}{least:Int}(hl:l.length≤300)(h:Ris q l):qen F l least=some (spO least (rs l),flat (spS least (rs l))):=by
 unfold qen
 have hs:=qiv (jG h).1 (jG h).2
 have hfl:=qeF l
 have hlong:=qgk hs
 rw[hfl] at hlong
 have hR:∀ r∈rs l,Mx l r∧(-1000000≤r.1∧r.1≤10000000)∧r.2≤300:=by
  intro r hr
  have hm:=qqw hs r hr
  rw[hfl] at hm
  have h2:=qhz hr
  rw[hfl] at h2
  have hx:=qis h _ (hm.2.2.2 r.1 (by omega) (by have:=hm.1;omega))
  unfold Nd at hx
  exact ⟨hm,by omega,by omega⟩
 have:=rall (F:=F) (l:=l) (least:=least) (by omega) hl (rs l) [] [] 0 (F-l.length-1) hR (by rw[hfl];rfl) (by omega) (by rw[hfl];simp;omega)
 rw[hfl,show F-l.length-1+1+l.length=F from by omega] at this
 simpa using this
theorem qmI {F:Nat}{x a b:Int}:qcL F x a b=some (decide (a≤x∧x≤b)):=by
 unfold qcL
 congr 1
 by_cases h:a≤x <;> by_cases h2:x≤b <;> simp[h,h2]
def RunOk (r:Int×Int):Prop:=(0≤r.1∧r.1≤1048576)∧(1≤r.2∧r.2≤300)∧r.1+r.2-1≤1048576
instance runOkDec (r:Int×Int):Decidable (RunOk r):=inferInstanceAs (Decidable (_∧_∧_))
def sk:Int→List (Int×Int)→Int
 | _,[]=>0
 | e,r::R=>if RunOk r then (if r.1<e+2 then 4 else sk (r.1+r.2-1) R) else 3
theorem quB:∀ {e:Int} {R:List (Int×Int)},sk e R=0↔(∀ r∈R,RunOk r)∧Sep (e+1) R
 | _,[]=>by simp[sk,Sep]
 | e,r::R=>by
  unfold sk Sep
  by_cases h:RunOk r
  ·rw[if_pos h]
   by_cases h2:r.1<e+2
   ·rw[if_pos h2];simp;omega
   ·rw[if_neg h2,quB]
    rw[show r.1+r.2-1+1=r.1+r.2 from by omega]
    have h3:1≤r.2:=h.2.1.1
    constructor
    ·rintro ⟨h4,h5⟩
     exact ⟨fun r' hr=>by rcases qxO.1 hr with rfl | hr;exact h;exact h4 r' hr,by omega,h3,h5⟩
    ·rintro ⟨h4,_,_,h5⟩
     exact ⟨fun r' hr=>h4 r' (by simp[hr]),h5⟩
  ·rw[if_neg h]
   constructor
   ·intro h3;simp at h3
   ·rintro ⟨h4,_⟩;exact absurd (h4 r (by simp)) h
theorem qje:∀ {R:List (Int×Int)},(∀ r∈R,RunOk r)→(flat R).length≤300*R.length
 | [],_=>by simp[flat]
 | r::R,h=>by
  have h1:=qje (R:=R) fun r hr=>h r (by simp[hr])
  have h2:=h r (by simp)
  unfold RunOk at h2
  rw[zF,qxF,yQ,qxX]
  omega
theorem qmz {F:Nat}{rec32:(qAq×Int)→Option (qAq×Int)}{i:Int}{r:Int×Int}{acc:qAq}(hr:RunOk r)(ha:acc.length≤1000000):∀ (k j:Nat),r.2.toNat<k+j→j≤r.2.toNat →
  yK F rec32 i r k (acc++rng r.1 j,(j:Int))=qbQ F rec32 i (acc++rng r.1 r.2.toNat)
 | 0,_,_,_=>by omega
 | k+1,j,h,hj=>by
  unfold RunOk at hr
  show qbN F rec32 i r (yK F rec32 i r k) (acc++rng r.1 j) (j:Int)=_
  unfold qbN
  by_cases hlt:j<r.2.toNat
  ·rw[if_pos (by simp;omega),qw (by omega) (by omega),qT (by simp[yQ];omega),qn (by omega)]
   simp only[qxD]
   rw[qxG,← qhm]
   exact qmz hr ha k (j+1) (by omega) (by omega)
  ·rw[if_neg (by simp;omega)]
   obtain rfl:j=r.2.toNat:=by omega
   rfl
theorem qsm {R:List (Int×Int)}{i:Nat}(h:i<R.length):flat (R.take (i+1))=flat (R.take i)++rng R[i].1 R[i].2.toNat:=by
 rw[qzb,qxE h,qkq]
 simp[flat]
theorem qkZ {F:Nat}(hF:1000<F){R:List (Int×Int)}(hR:∀ r∈R,RunOk r)(hl:R.length≤300):∀ (k i:Nat),R.length<k+i→i≤R.length →
  zm F R k (flat (R.take i),(i:Int))=some (flat R,0)
 | 0,_,_,_=>by omega
 | k+1,i,h,hi=>by
  show qbM F R (zm F R k) (flat (R.take i)) (i:Int)=_
  unfold qbM
  by_cases hlt:i<R.length
  ·have hok:=hR _ (qx8 hlt)
   have hsz:=qje (R:=R.take i) fun r hr=>hR r (qy8 hr)
   rw[qx1] at hsz
   have hsp:=qmz (F:=F) (rec32:=zm F R k) (i:=(i:Int)) (acc:=flat (R.take i)) hok (by omega) F 0 (by unfold RunOk at hok;omega) (by omega)
   rw[rng,qyv,show ((0:Nat):Int)=0 from rfl] at hsp
   rw[if_pos (by simp;omega),qt,qxE hlt]
   simp only[qxD]
   rw[hsp,← qsm hlt]
   unfold qbQ
   rw[qn (by omega)]
   exact qkZ hF hR hl k (i+1) (by omega) (by omega)
  ·rw[if_neg (by simp;omega)]
   obtain rfl:i=R.length:=by omega
   rw[qzq];rfl
theorem qkz {a b:Int}(h1:-1000000000≤a∧a≤1000000000)(h2:-1000000000≤b∧b≤1000000000):isub .i64 (iadd .i64 a b) 1=a+b-1:=by
 rw[qw (by omega) (by omega),qy (by omega) (by omega)]
theorem qkY {F:Nat}{R:List (Int×Int)}(hl:R.length≤300):∀ (k i:Nat) (e:Int),R.length<k+i→i≤R.length→-2≤e∧e≤1048576 →
  kO F R k (e,(i:Int))=if sk e (R.drop i)≠0 then some ([],sk e (R.drop i)) else qbP F R
 | 0,_,_,_,_,_=>by omega
 | k+1,i,e,h,hi,he=>by
  show qbO F R (kO F R k) e (i:Int)=_
  unfold qbO
  by_cases hlt:i<R.length
  ·rw[if_pos (by simp;omega),qt,qxE hlt,qxI hlt,sk]
   generalize R[i]=r
   simp only[qxD]
   rw[qmI,qmI]
   simp only[qxD]
   by_cases h1:0≤r.1∧r.1≤1048576
   ·rw[decide_eq_true h1,if_neg (by simp)]
    by_cases h2:1≤r.2∧r.2≤300
    ·rw[decide_eq_true h2,if_neg (by simp),qkz (by omega) (by omega)]
     unfold jt
     by_cases h3:r.1+r.2-1≤1048576
     ·have hok:RunOk r:=⟨h1,h2,h3⟩
      rw[if_neg (by simp;omega),if_pos hok,qw (by omega) (by omega)]
      by_cases h4:r.1<e+2
      ·rw[if_pos (by simpa using h4),if_pos h4,if_pos (by decide)]
      ·rw[if_neg (by simpa using h4),if_neg h4,qkz (by omega) (by omega),qn (by omega)]
       exact qkY hl k (i+1) _ (by omega) (by omega) (by omega)
     ·have hok:¬ RunOk r:=fun h=>h3 h.2.2
      rw[if_pos (by simp;omega),if_neg hok,if_pos (by decide)]
    ·have hok:¬ RunOk r:=fun h=>h2 h.2.1
     rw[decide_eq_false h2,if_pos (by simp),if_neg hok,if_pos (by decide)]
     rfl
   ·have hok:¬ RunOk r:=fun h=>h1 h.1
    rw[decide_eq_false h1,if_pos (by simp),if_neg hok,if_pos (by decide)]
    rfl
  ·rw[if_neg (by simp;omega),qxN (by omega),sk,if_neg (by simp)]
def skc (R:List (Int×Int)):Int:=if 300<R.length then 2 else sk (-2) R
def spd (R:List (Int×Int)):qAq×Int:=if skc R≠0 then ([],skc R) else (flat R,0)
theorem qqz {R:List (Int×Int)}:skc R=0↔R.length≤300∧(∀ r∈R,RunOk r)∧Sep (-1) R:=by
 unfold skc
 by_cases h:300<R.length
 ·rw[if_pos h];simp;omega
 ·rw[if_neg h,quB]
  simp
  omega
theorem qsM {F:Nat}(hF:20000≤F){R:List (Int×Int)}:qeE F R=some (spd R):=by
 unfold qeE spd
 by_cases h:300<R.length
 ·have e:skc R=2:=by unfold skc;rw[if_pos h]
  rw[if_pos (by simp;omega),e,if_pos (by decide)]
 ·have e:skc R=sk (-2) R:=by unfold skc;rw[if_neg h]
  have hc:=qkY (F:=F) (R:=R) (by omega) F 0 (-2) (by omega) (by omega) (by omega)
  rw[qxT] at hc
  rw[if_neg (by simp;omega),e]
  refine hc.trans ?_
  by_cases h2:sk (-2) R=0
  ·rw[if_neg (by simp[h2]),if_neg (by simp[h2])]
   unfold qbP
   have hok:=qqz.1 (e.trans h2)
   exact qkZ (by omega) hok.2.1 hok.1 F 0 (by omega) (by omega)
  ·rw[if_pos h2,if_pos h2]
def rm (R:List (Int×Int))(rest:qAq):qAq×Int:=if skc R≠0 then ([],skc R) else if gkc rest≠0 then ([],gkc rest) else mrg (flat R) rest
theorem qxA {R:List (Int×Int)}{rest:qAq}(h:skc R≠0):rm R rest=([],skc R):=by unfold rm;rw[if_pos h]
theorem qxB {R:List (Int×Int)}{rest:qAq}(h:skc R=0)(h2:gkc rest≠0):rm R rest=([],gkc rest):=by unfold rm;rw[if_neg (by simp[h]),if_pos h2]
theorem qxr {R:List (Int×Int)}{rest:qAq}(h:skc R=0)(h2:gkc rest=0):rm R rest=mrg (flat R) rest:=by unfold rm;rw[if_neg (by simp[h]),if_neg (by simp[h2])]
theorem qw0 {R:List (Int×Int)}(h:skc R=0):spd R=(flat R,0):=by unfold spd;rw[if_neg (by simp[h])]
theorem qvV {R:List (Int×Int)}(h:skc R≠0):spd R=([],skc R):=by unfold spd;rw[if_pos h]
theorem qtK {F:Nat}(hF:20000≤F){R:List (Int×Int)}{rest:qAq}:qe5 F R rest=some (rm R rest):=by
 unfold qe5
 rw[qsM hF,qgl hF]
 simp only[qxD]
 by_cases h:skc R=0
 ·rw[qw0 h,if_pos (by simp)]
  unfold qa1
  by_cases h2:gkc rest=0
  ·rw[qxr h h2,if_neg (by simp[h2])]
   obtain ⟨k1,k2,k3⟩:=qqz.1 h
   have k4:=zL.1 h2
   have k5:=qje k2
   exact qss hF (qqx k3) (jG k4.2).1 (by show (flat R).length+rest.length≤_;omega)
  ·rw[qxB h h2,if_pos (by simpa using h2)]
 ·rw[qvV h,qxA h,if_neg (by simpa using h)]
  unfold qa1
  rw[if_pos (by simpa using h)]
theorem qsC {R:List (Int×Int)}{rest w:qAq}(h1:skc R=0)(h2:gkc rest=0)(h3:cmn (flat R) rest=false)(h4:(flat R++rest).Perm w)(h5:w.Pairwise (·≤·))(h6:w.length≤300):rm R rest=(w,0):=by
 have hl:=h4.length_eq
 rw[qxF] at hl
 rw[qxr h1 h2]
 unfold mrg
 rw[h3,if_neg (by simp),if_neg (by omega),qhs h4 h5]
theorem qvE {l r:qAq}:(mrg l r).1.length≤300:=by
 unfold mrg
 split
 ·simp
 ·split
  ·simp
  ·simp;omega
theorem qwW {R:List (Int×Int)}{rest:qAq}:(rm R rest).1.length≤300:=by
 unfold rm
 split
 ·simp
 ·split
  ·simp
  ·exact qvE
theorem qkp {R:List (Int×Int)}(p:Int×Int→Bool):(R.filter p).length≤R.length:=qzB _ _
theorem qsz {A B:List (Int×Int)}(h:A.Perm B):(flat A).Perm (flat B):=h.flatMap_right _
theorem qir (least:Int):∀ (R:List (Int×Int)),(spO least R++spS least R).Perm R
 | []=>qyo _
 | r::R=>by
  by_cases h:least≤r.2
  ·rw[quD h,quE h];exact (qir least R).cons r
  ·rw[quC h,quF h];exact qyZ.trans ((qir least R).cons r)
theorem qpt (least:Int)(l:qAq):(flat (spO least (rs l))++flat (spS least (rs l))).Perm l:=by
 rw[← qkq]
 have:=qsz (qir least (rs l))
 rwa [qeF] at this
theorem qn3 {q:Int}{least:Int}{l:qAq}(hl:l.length≤300)(h:Ris q l):(spO least (rs l)).length≤300∧(flat (spS least (rs l))).length≤300:=by
 have h1:=qgk (qiv (jG h).1 (jG h).2)
 rw[qeF] at h1
 have h2:=(qpt least l).length_eq
 rw[qxF] at h2
 have h3:(spO least (rs l)).length≤(rs l).length:=qkp _
 omega
theorem qmu {l:qAq}(hl:l.length≤300)(h:Ris (-1) l):Sep (-1) (rs l)∧∀ r∈rs l,RunOk r:=by
 have hs:=qiv (jG h).1 (jG h).2
 refine ⟨hs,fun r hr=>?_⟩
 have hm:=qqw hs r hr
 have h2:=qhz hr
 rw[qeF] at hm h2
 have h1:=hm.1
 have a1:=qis h _ (hm.2.2.2 r.1 (by omega) (by omega))
 have a2:=qis h _ (hm.2.2.2 (r.1+r.2-1) (by omega) (by omega))
 unfold Nd at a1 a2
 exact ⟨by omega,by omega,by omega⟩
theorem qv0 {l:qAq}(hl:l.length≤300)(h:Ris (-1) l)(p:Int×Int→Bool):skc ((rs l).filter p)=0:=by
 obtain ⟨h1,h2⟩:=qmu hl h
 have h3:=qgk h1
 rw[qeF] at h3
 exact qqz.2 ⟨qy3 (qkp p) (by omega),fun r hr=>h2 r (qyK.1 hr).1,qdo p h1⟩
theorem qtm {R:List (Int×Int)}(p:Int×Int→Bool):∀ z∈flat (R.filter p),z∈flat R:=by
 intro z hz
 obtain ⟨r,h1,h2⟩:=qkr.1 hz
 exact qkr.2 ⟨r,(qyK.1 h1).1,h2⟩
theorem qj3 {l:qAq}(h:Ris (-1) l)(p:Int×Int→Bool):Ris (-1) (flat ((rs l).filter p)):=by
 have hs:=qiv (jG h).1 (jG h).2
 have hsub:∀ z∈flat ((rs l).filter p),z∈l:=fun z hz=>by have:=qtm p z hz;rwa [qeF] at this
 exact qnW (qqx (qdo p hs)) (fun z hz=>(jG h).2 z (hsub z hz)) (fun z hz=>qis h z (hsub z hz))
theorem qte (f:Int→Bool):∀ (l pre:qAq) (c:Bool),cp (pre++l) (tb c pre.length (l.map f)) c=(if c then pre else [])++l.filter f
 | [],pre,c=>by
  show cp (pre++[]) [] c=_
  unfold cp
  simp
 | x::l,pre,c=>by
  rw[qyp,qyV]
  by_cases h:f x=c
  ·have ih:=qte f l (pre++[x]) c
   rw[qxG,qxF,show ((pre.length+[x].length:Nat):Int)=(pre.length:Int)+1 from by simp] at ih
   rw[h,qhQ]
   refine ih.trans ?_
   cases c
   ·simp
   ·simp
  ·have ih:=qte f l [x] (f x)
   rw[qhR h]
   unfold cp
   have hc:(!c)=f x:=by cases c <;> cases hx:f x <;> simp_all
   rw[hc,show ((1:Int))=(([x]:qAq).length:Int) from rfl,qxH,List.take_left,qzJ]
   have ih':cp (x::l) (tb (f x) (([x]:qAq).length:Int) (l.map f)) (f x)=(if f x then [x] else [])++l.filter f:=ih
   rw[ih']
   cases f x <;> simp
theorem qwH (l m:qAq):cp l (tbs l m) true=l.filter (hasB m):=by
 have:=qte (hasB m) l [] true
 simpa[tbs] using this
theorem qhh:∀ (bs:List Bool) (f c:Bool) (m:Int),0≤m→(f=true∨1≤m)→okB f (tb c m bs)=true
 | [],_,_,_,_,_=>rfl
 | b::bs,f,c,m,h,hf=>by
  by_cases hb:b=c
  ·subst hb
   rw[qhQ]
   exact qhh bs f b (m+1) (by omega) (.inr (by omega))
  ·rw[qhR hb,qgn,qhh bs false b 1 (by omega) (.inr (by omega))]
   rcases hf with hf | hf
   ·simp[h,hf]
   ·simp[h,hf]
theorem qfU:∀ (bs:List Bool) (c:Bool) (m:Int),0≤m→bsum (tb c m bs)≤m+bs.length
 | [],_,_,h=>by show (0:Int)≤_;simp;omega
 | b::bs,c,m,h=>by
  by_cases hb:b=c
  ·subst hb
   rw[qhQ]
   have:=qfU bs b (m+1) (by omega)
   rw[qxX];omega
  ·rw[qhR hb]
   have:=qfU bs b 1 (by omega)
   show m+bsum _≤_
   rw[qxX];omega
theorem qhS (l m:qAq):(tbs l m).length≤l.length:=by
 have:=qqL true 0 (l.map (hasB m))
 rwa [qyB] at this
theorem qvj {l m:qAq}(h:gkc l=0):cpE l (tbs l m)=0:=by
 refine qp1.2 ⟨zL.1 h,?_,qhh _ _ _ _ (by omega) (.inl rfl),?_⟩
 ·have:=qhS l m;omega
 ·have:=qfU (l.map (hasB m)) true 0 (by omega)
  rw[qyB] at this
  unfold tbs;omega
theorem qq1 {l m:qAq}(h:gkc l=0):cpy l (tbs l m)=(l.filter (hasB m),0):=by
 rw[qp2 (qvj h),qwH]
theorem qvZ {l m:qAq}(h:gkc l=0)(hs:m.Sublist l):gkc m=0:=by
 obtain ⟨h1,h2⟩:=zL.1 h
 have:=hs.length_le
 exact zL.2 ⟨by omega,qnW ((jG h2).1.sublist hs) (fun z hz=>(jG h2).2 z (hs.subset hz)) (fun z hz=>qis h2 z (hs.subset hz))⟩
theorem qhd {l:qAq}(h:gkc l=0):l.Pairwise (·<·):=(jG (zL.1 h).2).1
theorem qoW {l:qAq}{x:Int}:hasB l x=true↔x∈l:=by unfold hasB;simp
theorem qo6 {a b:qAq}(ha:gkc a=0)(hb:gkc b=0):a.filter (hasB b)=b.filter (hasB a):=by
 refine qt4 ((qhd ha).sublist (qzs ..)) ((qhd hb).sublist (qzs ..)) fun z=>?_
 rw[qyK,qyK,qoW,qoW]
 exact And.comm
theorem ql8 (p:Int→Bool)(l:qAq):(l.filter p++l.filter fun x=>!p x).Perm l:=by
 induction l with
 | nil=>exact qyo _
 | cons x l ih =>
  rw[qyV,qyV]
  cases p x
  ·simp only[qxP,if_false,qzA,if_true]
   exact qyZ.trans (ih.cons x)
  ·simp only[if_true,qys,qxP,if_false]
   exact ih.cons x
structure Rep (l:qAq) (f:Bool) (S:qAq):Prop where
 bit:Bit l
 len:l.length≤8192
 ok:f=false→l=S
 full:f=true→8192<S.length
def Wr (m:Option (Int×qAq×Bool))(S:qAq):Prop:=∃ l f,m=some ((l.length:Int),pk l,f)∧Rep l f S
theorem qvO:Rep [] false []:=⟨by intro x hx;simp at hx,by simp,fun _=>rfl,by simp⟩
theorem que {l S:qAq}{f:Bool}(h:Rep l f S){k:qAq}(hk:8192<(S++k).length):Rep l true (S++k):=⟨h.bit,h.len,by simp,fun _=>hk⟩
theorem qoc {F:Nat}(hF:20000≤F){l k S:qAq}{f:Bool}(h:Rep l f S)(hk:Bit k)(hkm:k.length≤8192):Wr (yM F (l.length:Int) (pk l) f (k.length:Int) (pk k)) (S++k):=by
 have hl:=h.len
 unfold yM
 cases f with
 | true =>
  have:=h.full rfl
  refine ⟨l,true,by simp[yz],h.bit,h.len,by simp,fun _=>by simp;omega⟩
 | false =>
  obtain rfl:=h.ok rfl
  rw[if_neg (by simp),vg (by omega)]
  unfold yz
  by_cases hb:8192<l.length+k.length
  ·rw[if_neg (by simp;omega)]
   refine ⟨l,true,by simp;omega,h.bit,h.len,by simp,fun _=>by simp;omega⟩
  ·rw[if_pos (by simp;omega),qqV hF h.bit hk h.len hkm]
   refine ⟨l++k,false,by simp;omega,kw h.bit hk,by simp;omega,fun _=>rfl,by simp⟩
theorem qed {F:Nat}(hF:20000≤F){l S:qAq}{f:Bool}(h:Rep l f S){n:Int}(h0:0≤n)(hn:n≤1099511627776):Wr (zb F (l.length:Int) (pk l) f n) (S++ga n.toNat):=by
 obtain ⟨m,rfl⟩:=qxK h0
 unfold zb
 rw[zz (by omega),qjE hF (by omega)]
 simp only[qxD,qxH]
 obtain ⟨l',f',e,h'⟩:=qoc hF h (qgF m) (by have:=qdX (n:=m) (by omega);omega)
 rw[e]
 exact ⟨l',f',rfl,h'⟩
theorem qjw {m:Option (Int×qAq×Bool)}{S T:qAq}(h:Wr m S)(e:S=T):Wr m T:=e▸h
def encBs:Bool→qAq→qAq
 | _,[]=>[]
 | b,n::bs=>ga (n-if b then 1 else 0).toNat++encBs true bs
def encB (bs:qAq):qAq:=ga bs.length++encBs false bs
theorem qtE (i:Nat):imin (i:Int) 1=if 0<i then 1 else 0:=by
 unfold imin
 by_cases h:0<i
 ·rw[if_pos h]
  by_cases h2:i=1
  ·subst h2;simp
  ·rw[if_pos (by omega)]
 ·rw[if_neg h,if_neg (by omega)];omega
theorem qmH {F:Nat}(hF:20000≤F){bs:qAq}(hm:bs.length≤1000):∀ (k i:Nat) (l:qAq) (f:Bool) (S:qAq),bs.length<k+i→i≤bs.length→Rep l f S→okB (!decide (0<i)) (bs.drop i)=true→(∀ n∈bs,n≤1000000) →
  Wr (zX F bs k ((i:Int),(l.length:Int),pk l,f)) (S++encBs (decide (0<i)) (bs.drop i))
 | 0,_,_,_,_,_,_,_,_,_=>by omega
 | k+1,i,l,f,S,h,hi,hr,hok,hb=>by
  show Wr (yN F bs (zX F bs k) (i:Int) (l.length:Int) (pk l) f) _
  unfold yN
  by_cases hlt:i<bs.length
  ·rw[qxI hlt,qgn] at hok
   simp only[qyi,qyC,decide_eq_true_eq,Bool.not_eq_true',decide_eq_false_iff_not] at hok
   have hn:=hb bs[i] (qx8 hlt)
   rw[if_pos (by simp;omega),qt,qxE hlt,qxI hlt,qtE]
   simp only[qxD]
   have e1:isub .i64 bs[i] (if 0<i then 1 else 0)=bs[i]-(if decide (0<i)=true then 1 else 0):=by
    by_cases h0:0<i
    ·rw[if_pos h0,if_pos (by simpa using h0),qy (by omega) (by omega)]
    ·rw[if_neg h0,if_neg (by simpa using h0),qy (by omega) (by omega)]
   rw[e1]
   obtain ⟨l',f',e,h'⟩:=qed hF hr (n:=bs[i]-(if decide (0<i)=true then 1 else 0)) (by split <;> rename_i h0 <;> simp at h0 <;> omega) (by split <;> omega)
   rw[e]
   simp only[qxD]
   rw[qn (by omega)]
   refine qjw (qmH hF hm k (i+1) l' f' _ (by omega) (by omega) h' (by simpa using hok.2) hb) ?_
   rw[qxG]
   simp[encBs]
  ·rw[if_neg (by simp;omega),qxN (by omega)]
   exact ⟨l,f,rfl,by simpa[encBs] using hr⟩
theorem qqM {F:Nat}(hF:20000≤F){bs l S:qAq}{f:Bool}(hm:bs.length≤1000)(hr:Rep l f S)(hok:okB true bs=true)(hb:∀ n∈bs,n≤1000000):Wr (jv F (l.length:Int) (pk l) f bs) (S++encB bs):=by
 unfold jv
 obtain ⟨l',f',e,h'⟩:=qed hF hr (n:=(bs.length:Int)) (by omega) (by omega)
 rw[e]
 simp only[qxD]
 refine qjw (qmH hF hm F 0 l' f' _ (by omega) (by omega) h' (by simpa using hok) hb) ?_
 simp[encB]
def encRs (least:Int):Bool→Int→List (Int×Int)→qAq
 | _,_,[]=>[]
 | b,a,r::R=>ga (if b then r.1-a-2 else foldOf (r.1-a)).toNat++(ga (r.2-least).toNat++encRs least true (r.1+r.2-1) R)
def encR (least node:Int)(R:List (Int×Int)):qAq:=ga R.length++encRs least false node R
theorem qfz {x:Int}(h:-2000000≤x∧x≤2000000):0≤foldOf x∧foldOf x≤4000001:=by unfold foldOf;split <;> omega
end Go.Proofs.YtmhggdbfbmkpeaaGreat
