/- Plain facts of what the functions of this seat compute. -/
import Derived.Test.YtmoikolponkmpaaGreatModels
import Derived.KernelRfl
import Derived.Lib.SlicesCompact
open BitVec renaming ofNat→qwd, ofInt→qwi, toNat_ofNat→qwB, allOnes→qxd
open Bool renaming false_eq_true→qv0, not_true→qwc, and_eq_true→qwq, or_eq_true→qw3, not_false→qx7, not_eq_true'→qyb
open Int renaming toNat_natCast→qvP, eq_ofNat_of_zero_le→qvS, natCast_mul→qw2, tdiv_eq_ediv_of_nonneg→qxk, ediv_le_self→qxX, natCast_nonneg→qya, ediv_nonneg→qyf
open List renaming getElem?_eq_getElem→qvL, append_assoc→qvM, length_append→qvN, mem_append→qvQ, mem_cons→qvR, replicate→qvU, drop_eq_getElem_cons→qvV, getElem?_eq_some_iff→qvW, drop_eq_nil_of_le→qv1, drop_zero→qv5, getElem?_eq_none→qv6, mem_cons_of_mem→qv7, nil_append→qv8, length_cons→qwa, length_take→qwb, getElem_mem→qwe, mem_cons_self→qwf, range→qwm, nodup_append→qwr, length_drop→qws, length_replicate→qww, take_append_drop→qwD, replicate_succ→qwG, getElem?_map→qwK, append_nil→qwL, pairwise_cons→qwM, length_nil→qwN, length_map→qwO, getElem?_drop→qwP, cons_append→qwQ, perm_middle→qwR, ext_getElem?→qwU, pairwise_iff_getElem→qwX, getD→qwZ, filter_cons→qw0, mem_filter→qw8, mem_of_mem_take→qxn, getElem?_range→qxt, getElem?_cons_succ→qxu, take_left'→qxx, take_add_one→qxA, length_filter_le→qxD, getElem?_of_mem→qxE, filter_sublist→qxH, drop_left→qxP, flatten_cons→qxR, length_singleton→qx0, take_succ_cons→qx3, take_length→qyc
open List.Perm renaming refl→qwl
open List.Sublist renaming refl→qv9
open List.cons renaming injEq→qxi
open Nat renaming le_refl→qv3, mod_eq_of_lt→qwj, pow_le_pow_right→qwu, add_sub_cancel→qwC, le_trans→qwS, div_le_self→qwW, add_zero→qwY, add_assoc→qw1, pow_pos→qw5, min_eq_left→qw7, add_mul→qxe, mul_comm→qxg, add_comm→qxq, pow_succ→qxr, sub_zero→qxC, div_mul_le_self→qxG, lt_of_lt_of_le→qxL, pow_succ'→qxT, pow_add→qx8, div_eq_of_lt→qye
open Option renaming bind_some→qvK, map_some→qwo, bind_eq_some_iff→qwp, map_bind→qyg
open Option.some renaming injEq→qvY, inj→qxK
open Prod.mk renaming injEq→qxa
namespace Go.Proofs.YtmoikolponkmpaaGreat
open Go SX
variable {F:Nat} {rec68:(List (Int×Int)×qyo×Int)→Option (List (Int×Int)×qyo)} {l:qyo} {least:Int} {o:List (Int×Int)} {rest:qyo} {i:Int}
variable {F:Nat} {x1 x4:qyo} {x7:Int} {x8:qyo} {x11 x12 x13:Int} {x14:List (qyo)} {x17 x18 x60:Int} {x55 x58 x63:qyo×qyo}
def byt (l:qyo)(k:Nat):Int :=
 l.getD (8*k) 0*128+l.getD (8*k+1) 0*64+l.getD (8*k+2) 0*32+l.getD (8*k+3) 0*16+l.getD (8*k+4) 0*8+l.getD (8*k+5) 0*4+l.getD (8*k+6) 0*2+l.getD (8*k+7) 0
def pk (l:qyo):qyo:=(qwm ((l.length+7)/8)).map (byt l)
def Bit (l:qyo):Prop:=∀ x∈l,x=0∨x=1
theorem Bit.getD {l:qyo}(h:Bit l)(i:Nat):l.getD i 0=0∨l.getD i 0=1:=by
 by_cases hi:i<l.length
 ·have:=h l[i] (qwe hi)
  simpa[qwZ,hi] using this
 ·left
  simp[qwZ,qv6 (Nat.le_of_not_lt hi)]
theorem qay {l:qyo}{i:Nat}(h:l.length≤i):l.getD i 0=0:=by simp[qwZ,qv6 h]
theorem qjV (l:qyo)(x:Int)(i:Nat):(l++[x]).getD i 0=if i=l.length then x else l.getD i 0:=by
 by_cases h:i=l.length
 ·subst h;simp[qwZ]
 ·rw[if_neg h]
  by_cases h2:i<l.length
  ·simp[qwZ,List.getElem?_append_left h2]
  ·rw[qay (by simp;omega),qay (by omega)]
theorem qg0 {l:qyo}(h:Bit l)(k:Nat):0≤byt l k∧byt l k<256:=by
 have h0:=h.getD (8*k);have h1:=h.getD (8*k+1);have h2:=h.getD (8*k+2);have h3:=h.getD (8*k+3)
 have h4:=h.getD (8*k+4);have h5:=h.getD (8*k+5);have h6:=h.getD (8*k+6);have h7:=h.getD (8*k+7)
 unfold byt
 omega
theorem qh7 {l:qyo}{x:Int}{k:Nat}(h:k≠l.length/8):byt (l++[x]) k=byt l k:=by
 unfold byt
 simp only[qjV]
 rw[if_neg (by omega),if_neg (by omega),if_neg (by omega),if_neg (by omega),if_neg (by omega),if_neg (by omega),if_neg (by omega),if_neg (by omega)]
theorem ql1 {l:qyo}{x:Int}:byt (l++[x]) (l.length/8)=byt l (l.length/8)+x*2^(7-l.length%8):=by
 obtain ⟨k,hk⟩:∃ k,k=l.length/8:=⟨_,rfl⟩
 obtain ⟨r,hr⟩:∃ r,r=l.length%8:=⟨_,rfl⟩
 have hl:l.length=8*k+r:=by omega
 have hr8:r<8:=by omega
 rw[← hk,← hr]
 unfold byt
 simp only[qjV,hl]
 have hg:∀ j,r≤j→l.getD (8*k+j) 0=0:=fun j hj=>qay (by omega)
 have g0:=hg 0;have g1:=hg 1;have g2:=hg 2;have g3:=hg 3;have g4:=hg 4;have g5:=hg 5;have g6:=hg 6;have g7:=hg 7
 rw[qwY] at g0
 rcases (by omega:r=0∨r=1∨r=2∨r=3∨r=4∨r=5∨r=6∨r=7) with rfl | rfl | rfl | rfl | rfl | rfl | rfl | rfl
 ·rw[show (2:Int)^(7-0)=128 from by decide]
  rw[if_pos (by omega),if_neg (by omega),if_neg (by omega),if_neg (by omega),if_neg (by omega),if_neg (by omega),if_neg (by omega),if_neg (by omega)]
  have e0:=g0 (by omega)
  have e1:=g1 (by omega)
  have e2:=g2 (by omega)
  have e3:=g3 (by omega)
  have e4:=g4 (by omega)
  have e5:=g5 (by omega)
  have e6:=g6 (by omega)
  have e7:=g7 (by omega)
  omega
 ·rw[show (2:Int)^(7-1)=64 from by decide]
  rw[if_neg (by omega),if_pos (by omega),if_neg (by omega),if_neg (by omega),if_neg (by omega),if_neg (by omega),if_neg (by omega),if_neg (by omega)]
  have e1:=g1 (by omega)
  have e2:=g2 (by omega)
  have e3:=g3 (by omega)
  have e4:=g4 (by omega)
  have e5:=g5 (by omega)
  have e6:=g6 (by omega)
  have e7:=g7 (by omega)
  omega
 ·rw[show (2:Int)^(7-2)=32 from by decide]
  rw[if_neg (by omega),if_neg (by omega),if_pos (by omega),if_neg (by omega),if_neg (by omega),if_neg (by omega),if_neg (by omega),if_neg (by omega)]
  have e2:=g2 (by omega)
  have e3:=g3 (by omega)
  have e4:=g4 (by omega)
  have e5:=g5 (by omega)
  have e6:=g6 (by omega)
  have e7:=g7 (by omega)
  omega
 ·rw[show (2:Int)^(7-3)=16 from by decide]
  rw[if_neg (by omega),if_neg (by omega),if_neg (by omega),if_pos (by omega),if_neg (by omega),if_neg (by omega),if_neg (by omega),if_neg (by omega)]
  have e3:=g3 (by omega)
  have e4:=g4 (by omega)
  have e5:=g5 (by omega)
  have e6:=g6 (by omega)
  have e7:=g7 (by omega)
  omega
 ·rw[show (2:Int)^(7-4)=8 from by decide]
  rw[if_neg (by omega),if_neg (by omega),if_neg (by omega),if_neg (by omega),if_pos (by omega),if_neg (by omega),if_neg (by omega),if_neg (by omega)]
  have e4:=g4 (by omega)
  have e5:=g5 (by omega)
  have e6:=g6 (by omega)
  have e7:=g7 (by omega)
  omega
 ·rw[show (2:Int)^(7-5)=4 from by decide]
  rw[if_neg (by omega),if_neg (by omega),if_neg (by omega),if_neg (by omega),if_neg (by omega),if_pos (by omega),if_neg (by omega),if_neg (by omega)]
  have e5:=g5 (by omega)
  have e6:=g6 (by omega)
  have e7:=g7 (by omega)
  omega
 ·rw[show (2:Int)^(7-6)=2 from by decide]
  rw[if_neg (by omega),if_neg (by omega),if_neg (by omega),if_neg (by omega),if_neg (by omega),if_neg (by omega),if_pos (by omega),if_neg (by omega)]
  have e6:=g6 (by omega)
  have e7:=g7 (by omega)
  omega
 ·rw[show (2:Int)^(7-7)=1 from by decide]
  rw[if_neg (by omega),if_neg (by omega),if_neg (by omega),if_neg (by omega),if_neg (by omega),if_neg (by omega),if_neg (by omega),if_pos (by omega)]
  have e7:=g7 (by omega)
  omega
theorem irem8 (n:Nat):irem (n:Int) 8=((n%8:Nat):Int):=by
 unfold irem;rw[Int.tmod_eq_emod_of_nonneg (by omega)];omega
theorem iquo8 {n:Nat}(h:n≤9223372036854775807):iquo .i64 (n:Int) 8=((n/8:Nat):Int):=by
 unfold iquo;rw[qxk (by omega),kE (by omega) (by omega)];omega
theorem qof {l:qyo}:byt l (l.length/8)%2^(8-l.length%8)=0:=by
 obtain ⟨k,hk⟩:∃ k,k=l.length/8:=⟨_,rfl⟩
 obtain ⟨r,hr⟩:∃ r,r=l.length%8:=⟨_,rfl⟩
 have hl:l.length=8*k+r:=by omega
 have hr8:r<8:=by omega
 rw[← hk,← hr]
 unfold byt
 have hg:∀ j,r≤j→l.getD (8*k+j) 0=0:=fun j hj=>qay (by omega)
 have g0:=hg 0;have g1:=hg 1;have g2:=hg 2;have g3:=hg 3;have g4:=hg 4;have g5:=hg 5;have g6:=hg 6;have g7:=hg 7
 rw[qwY] at g0
 rcases (by omega:r=0∨r=1∨r=2∨r=3∨r=4∨r=5∨r=6∨r=7) with rfl | rfl | rfl | rfl | rfl | rfl | rfl | rfl
 ·have e0:=g0 (by omega);have e1:=g1 (by omega);have e2:=g2 (by omega);have e3:=g3 (by omega);have e4:=g4 (by omega);have e5:=g5 (by omega);have e6:=g6 (by omega);have e7:=g7 (by omega)
  rw[show (2:Int)^(8-0)=256 from by decide];omega
 ·have e1:=g1 (by omega);have e2:=g2 (by omega);have e3:=g3 (by omega);have e4:=g4 (by omega);have e5:=g5 (by omega);have e6:=g6 (by omega);have e7:=g7 (by omega)
  rw[show (2:Int)^(8-1)=128 from by decide];omega
 ·have e2:=g2 (by omega);have e3:=g3 (by omega);have e4:=g4 (by omega);have e5:=g5 (by omega);have e6:=g6 (by omega);have e7:=g7 (by omega)
  rw[show (2:Int)^(8-2)=64 from by decide];omega
 ·have e3:=g3 (by omega);have e4:=g4 (by omega);have e5:=g5 (by omega);have e6:=g6 (by omega);have e7:=g7 (by omega)
  rw[show (2:Int)^(8-3)=32 from by decide];omega
 ·have e4:=g4 (by omega);have e5:=g5 (by omega);have e6:=g6 (by omega);have e7:=g7 (by omega)
  rw[show (2:Int)^(8-4)=16 from by decide];omega
 ·have e5:=g5 (by omega);have e6:=g6 (by omega);have e7:=g7 (by omega)
  rw[show (2:Int)^(8-5)=8 from by decide];omega
 ·have e6:=g6 (by omega);have e7:=g7 (by omega)
  rw[show (2:Int)^(8-6)=4 from by decide];omega
 ·have e7:=g7 (by omega)
  rw[show (2:Int)^(8-7)=2 from by decide];omega
theorem qsQ {l:qyo}(h:l.length%8=0):byt l (l.length/8)=0:=by
 unfold byt
 rw[qay (by omega),qay (by omega),qay (by omega),qay (by omega),qay (by omega),qay (by omega),qay (by omega),qay (by omega)]
 rfl
theorem qmk (k:IntKind)(a b:Int):ior k a b=ior k b a:=by unfold ior;rw[BitVec.or_comm]
def room (l:qyo):qyo:=(qwm (l.length/8+1)).map (byt l)
theorem qo4 {F:Nat}{l:qyo}(hl:Bit l){x:Int}(hx:x=0∨x=1)(hn:l.length≤1000000):kZ F (l.length:Int) x (room l)=some (((l.length+1:Nat):Int),pk (l++[x])):=by
 unfold kZ
 rw[iquo8 (by omega),irem8]
 have hg:(room l)[l.length/8]?=some (byt l (l.length/8)):=by simp[room]
 rw[qG,hg]
 simp only[qvK]
 have hc:decide ((0:Int)≤((l.length%8:Nat):Int))=true:=decide_eq_true (by omega)
 rw[hc]
 simp only[chk,if_true,lett,qvP]
 have hb:=qg0 hl (l.length/8)
 have hr8:l.length%8<8:=Nat.mod_lt _ (by decide)
 have e1:ishl .u64 x 7=x*128:=by
  have:=qik (a:=x) (m:=7) (by decide)
  rw[show ((7:Nat):Int)=7 from rfl] at this
  rw[this]
  rcases hx with rfl | rfl <;> decide
 have e2:iconv .u8 (x*128)=x*128:=qt1 (by omega) (by omega)
 have e3:ishr .u8 (x*128) ((l.length%8:Nat):Int)=x*2^(7-l.length%8):=by
  rw[qfs (by simp only[IntKind.bits];omega)]
  have key:∀ r:Fin 8,((0:Int)*128/2^r.val=0*2^(7-r.val))∧((1:Int)*128/2^r.val=1*2^(7-r.val)):=by decide
  have:=key ⟨l.length%8,hr8⟩
  rcases hx with rfl | rfl
  ·exact this.1
  ·exact this.2
 have key2:∀ r:Fin 8,(1:Int)≤2^(7-r.val)∧(2:Int)^(8-r.val)=2*2^(7-r.val)∧(2:Int)^(7-r.val)≤128∧(256:Int)%2^(8-r.val)=0∧(2:Int)^(8-r.val)≤256:=by decide
 have hk2:=key2 ⟨l.length%8,hr8⟩
 simp only at hk2
 have hat:=ql1 (l:=l) (x:=x)
 have hb2:Bit (l++[x]):=by
  intro y hy
  rcases qvQ.1 hy with h | h
  ·exact hl y h
  ·simp at h;subst h;exact hx
 have hbb:=qg0 hb2 (l.length/8)
 have e4:ior .u8 (byt l (l.length/8)) (x*2^(7-l.length%8))=byt (l++[x]) (l.length/8):=by
  rw[qmk,qoB (m:=8-l.length%8) ?_ ?_ hb.1 qof rfl ?_]
  ·rw[hat];omega
  ·rcases hx with rfl | rfl <;> omega
  ·rcases hx with rfl | rfl <;> omega
  ·simp only[IntKind.bits]
   rw[show (2:Int)^8=256 from by decide]
   omega
 rw[e1,e2,e3,e4,qD (by omega) (by omega)]
 congr 2
 unfold room pk
 have hlen:((l++[x]).length+7)/8=l.length/8+1:=by simp;omega
 rw[hlen]
 apply qwU
 intro k
 rw[List.getElem?_set]
 by_cases hk:l.length/8=k
 ·subst hk;simp
 ·rw[if_neg hk]
  simp only[qwK]
  by_cases h3:k<l.length/8+1
  ·rw[qxt h3]
   simp only[qwo]
   rw[qh7 (fun e=>hk e.symm)]
  ·rw[qv6 (by simpa using h3)]
   rfl
theorem qqt {F:Nat}{l:qyo}(hl:Bit l){x:Int}(hx:x=0∨x=1)(hn:l.length≤1000000):vo F (l.length:Int) (pk l) x=some (((l.length+1:Nat):Int),pk (l++[x])):=by
 unfold vo
 rw[irem8]
 by_cases h:l.length%8=0
 ·have h1:((((l.length%8:Nat):Int):Int) == 0)=true:=by simp[h]
  simp only[h1,if_true]
  rw[yb (by simp[pk];omega)]
  simp only[qvK]
  have:pk l++[0]=room l:=by
   unfold pk room
   rw[show (l.length+7)/8=l.length/8 from by omega,List.range_succ,List.map_append]
   simp[qsQ h]
  rw[this]
  exact qo4 hl hx hn
 ·have h1:((((l.length%8:Nat):Int):Int) == 0)=false:=by simp;omega
  simp only[h1,qv0,if_false]
  have:pk l=room l:=by
   unfold pk room
   rw[show (l.length+7)/8=l.length/8+1 from by omega]
  rw[this]
  exact qo4 hl hx hn
def bitAt (b:qyo)(i:Nat):Int:=b.getD (i/8) 0/2^(7-i%8)%2
def bl (b:qyo)(n:Nat):qyo:=(qwm n).map (bitAt b)
theorem qgY (b:qyo)(i:Nat):bitAt b i=0∨bitAt b i=1:=by unfold bitAt;omega
theorem qng (b:qyo)(n:Nat):Bit (bl b n):=by
 intro x hx
 obtain ⟨i,_,rfl⟩:=List.mem_map.1 hx
 exact qgY b i
theorem qcm (b:qyo)(n:Nat):(bl b n).length=n:=by simp[bl]
def U8s (l:qyo):Prop:=∀ n∈l,0≤n∧n<256
theorem qqo {F:Nat}{n:Int}{b:qyo}(hb:U8s b){i:Nat}(hi:i/8<b.length)(hm:i≤1000000):vN F n b (i:Int)=some (bitAt b i):=by
 unfold vN
 rw[iquo8 (by omega),irem8,qG]
 have hg:b[i/8]?=some b[i/8]:=by simp[hi]
 rw[hg]
 simp only[qvK]
 have e1:isub .i64 7 ((i%8:Nat):Int)=((7-i%8:Nat):Int):=by rw[zB (by omega) (by omega)];omega
 rw[e1]
 have hc:decide ((0:Int)≤((7-i%8:Nat):Int))=true:=decide_eq_true (by omega)
 rw[hc]
 simp only[chk,if_true,lett]
 have hx:=hb b[i/8] (qwe hi)
 rw[qfs (by simp only[IntKind.bits];omega)]
 have hp:(1:Int)≤2^(7-i%8):=by
  have key:∀ r:Fin 8,(1:Int)≤2^(7-r.val):=by decide
  exact key ⟨i%8,Nat.mod_lt _ (by decide)⟩
 have h1:0≤b[i/8]/2^(7-i%8):=qyf hx.1 (by omega)
 have h2:b[i/8]/2^(7-i%8)≤b[i/8]:=qxX _ hx.1
 have e2:iconv .u64 (b[i/8]/2^(7-i%8))=b[i/8]/2^(7-i%8):=yR h1 (by omega)
 rw[e2]
 have e3:=qfr (k:=.u64) (a:=b[i/8]/2^(7-i%8)) (m:=1) h1 (by simp only[IntKind.bits];rw[show (2:Int)^64=18446744073709551616 from by decide];omega) (by decide) rfl
 rw[show ((2^1-1:Nat):Int)=1 from rfl,show (2:Int)^1=2 from rfl] at e3
 rw[e3]
 unfold bitAt
 simp[qwZ,hg]
theorem qmy {F:Nat}{n:Int}{b:qyo}(hb:U8s b){yy:(Int×qyo)→Int→Option ((Int×qyo) ⊕ Empty)}(hy:∀ (l:qyo) x,Bit l→(x=0∨x=1)→l.length≤100000→yy ((l.length:Int),pk l) x=some (.inl (((l.length+1:Nat):Int),pk (l++[x])))){to:Nat}(ht:to≤8*b.length)(hm:to≤10000) :
  ∀ (k i:Nat) (l:qyo),to<k+i→i≤to→Bit l→l.length+(to-i)≤100000 →
   zO F yy (to:Int) n b k ((i:Int),((l.length:Int),pk l))=some (.inl (((l.length+(to-i):Nat):Int),pk (l++(bl b to).drop i)))
 | 0,i,l,h,hi,_,_=>by omega
 | k+1,i,l,h,hi,hl,hc=>by
  have hstep:zO F yy (to:Int) n b (k+1) ((i:Int),((l.length:Int),pk l))=ji F yy (to:Int) n b (zO F yy (to:Int) n b k) (i:Int) ((l.length:Int),pk l):=rfl
  rw[hstep]
  unfold ji
  by_cases hlt:i<to
  ·have h1:(i:Int)<(to:Int):=by omega
   simp only[h1,decide_true,if_true]
   rw[qqo hb (by omega) (by omega)]
   simp only[qvK]
   have hx:=qgY b i
   rw[hy l _ hl hx (by omega)]
   simp only[qvK,Sum.elim_inl]
   rw[qD (by omega) (by omega),show (i:Int)+1=((i+1:Nat):Int) from by omega]
   have hl2:Bit (l++[bitAt b i]):=by
    intro y hy2
    rcases qvQ.1 hy2 with h | h
    ·exact hl y h
    ·simp at h;subst h;exact hx
   have:=qmy (F:=F) (n:=n) hb hy ht hm k (i+1) (l++[bitAt b i]) (by omega) (by omega) hl2 (by simp;omega)
   rw[show (l++[bitAt b i]).length=l.length+1 from by simp] at this
   rw[this]
   have hd:(bl b to).drop i=bitAt b i::(bl b to).drop (i+1):=by
    rw[qvV (by rw[qcm];exact hlt)]
    congr 1
    simp[bl]
   rw[hd,qvM,show l.length+1+(to-(i+1))=l.length+(to-i) from by omega]
   rfl
  ·have h1:¬ (i:Int)<(to:Int):=by omega
   simp only[h1,decide_false,qv0,if_false]
   rw[qv1 (by rw[qcm];omega),qwL,show l.length+(to-i)=l.length from by omega]
structure Ok (n:Nat) (b:qyo):Prop where
 max:n≤8192
 len:b.length=(n+7)/8
 low:n%8≠0→b.getD (n/8) 0%2^(8-n%8)=0
theorem qsK {b:qyo}{n i:Nat}:(bl b n).getD i 0=if i<n then bitAt b i else 0:=by
 by_cases h:i<n
 ·rw[if_pos h];simp[bl,qwZ,h]
 ·rw[if_neg h];exact qay (by rw[qcm];omega)
theorem bits8 {x:Int}(h0:0≤x)(h1:x<256):x/128%2*128+x/64%2*64+x/32%2*32+x/16%2*16+x/8%2*8+x/4%2*4+x/2%2*2+x/1%2=x:=by omega
theorem qoa (b:qyo)(k:Nat):bitAt b (8*k)=b.getD k 0/128%2∧bitAt b (8*k+1)=b.getD k 0/64%2∧bitAt b (8*k+2)=b.getD k 0/32%2∧bitAt b (8*k+3)=b.getD k 0/16%2 ∧
  bitAt b (8*k+4)=b.getD k 0/8%2∧bitAt b (8*k+5)=b.getD k 0/4%2∧bitAt b (8*k+6)=b.getD k 0/2%2∧bitAt b (8*k+7)=b.getD k 0/1%2:=by
 unfold bitAt
 rw[show 8*k/8=k from by omega,show (8*k+1)/8=k from by omega,show (8*k+2)/8=k from by omega,show (8*k+3)/8=k from by omega,show (8*k+4)/8=k from by omega,show (8*k+5)/8=k from by omega,show (8*k+6)/8=k from by omega,show (8*k+7)/8=k from by omega,
  show 8*k%8=0 from by omega,show (8*k+1)%8=1 from by omega,show (8*k+2)%8=2 from by omega,show (8*k+3)%8=3 from by omega,show (8*k+4)%8=4 from by omega,show (8*k+5)%8=5 from by omega,show (8*k+6)%8=6 from by omega,show (8*k+7)%8=7 from by omega]
 exact ⟨rfl,rfl,rfl,rfl,rfl,rfl,rfl,rfl⟩
theorem quH {n:Nat}{b:qyo}(hb:U8s b)(h:Ok n b){k:Nat}(hk:k<(n+7)/8):byt (bl b n) k=b.getD k 0:=by
 have hx:0≤b.getD k 0∧b.getD k 0<256:=by
  have hlt:k<b.length:=by rw[h.len];exact hk
  have:=hb b[k] (qwe hlt)
  simpa[qwZ,hlt] using this
 obtain ⟨c0,c1,c2,c3,c4,c5,c6,c7⟩:=qoa b k
 unfold byt
 simp only[qsK]
 rw[c0,c1,c2,c3,c4,c5,c6,c7]
 by_cases hf:8*k+8≤n
 ·rw[if_pos (by omega),if_pos (by omega),if_pos (by omega),if_pos (by omega),if_pos (by omega),if_pos (by omega),if_pos (by omega),if_pos (by omega)]
  exact bits8 hx.1 hx.2
 ·have hkn:n/8=k:=by omega
  obtain ⟨r,hr⟩:∃ r,r=n%8:=⟨_,rfl⟩
  have hn:n=8*k+r:=by omega
  have hlow:=h.low (by omega)
  rw[hkn,← hr] at hlow
  generalize b.getD k 0=x at hx hlow
  rcases (by omega:r=1∨r=2∨r=3∨r=4∨r=5∨r=6∨r=7) with rfl | rfl | rfl | rfl | rfl | rfl | rfl
  ·rw[if_pos (by omega),if_neg (by omega),if_neg (by omega),if_neg (by omega),if_neg (by omega),if_neg (by omega),if_neg (by omega),if_neg (by omega)]
   rw[show (2:Int)^(8-1)=128 from by decide] at hlow
   omega
  ·rw[if_pos (by omega),if_pos (by omega),if_neg (by omega),if_neg (by omega),if_neg (by omega),if_neg (by omega),if_neg (by omega),if_neg (by omega)]
   rw[show (2:Int)^(8-2)=64 from by decide] at hlow
   omega
  ·rw[if_pos (by omega),if_pos (by omega),if_pos (by omega),if_neg (by omega),if_neg (by omega),if_neg (by omega),if_neg (by omega),if_neg (by omega)]
   rw[show (2:Int)^(8-3)=32 from by decide] at hlow
   omega
  ·rw[if_pos (by omega),if_pos (by omega),if_pos (by omega),if_pos (by omega),if_neg (by omega),if_neg (by omega),if_neg (by omega),if_neg (by omega)]
   rw[show (2:Int)^(8-4)=16 from by decide] at hlow
   omega
  ·rw[if_pos (by omega),if_pos (by omega),if_pos (by omega),if_pos (by omega),if_pos (by omega),if_neg (by omega),if_neg (by omega),if_neg (by omega)]
   rw[show (2:Int)^(8-5)=8 from by decide] at hlow
   omega
  ·rw[if_pos (by omega),if_pos (by omega),if_pos (by omega),if_pos (by omega),if_pos (by omega),if_pos (by omega),if_neg (by omega),if_neg (by omega)]
   rw[show (2:Int)^(8-6)=4 from by decide] at hlow
   omega
  ·rw[if_pos (by omega),if_pos (by omega),if_pos (by omega),if_pos (by omega),if_pos (by omega),if_pos (by omega),if_pos (by omega),if_neg (by omega)]
   rw[show (2:Int)^(8-7)=2 from by decide] at hlow
   omega
theorem qrr {n:Nat}{b:qyo}(hb:U8s b)(h:Ok n b):pk (bl b n)=b:=by
 unfold pk
 rw[qcm]
 apply qwU
 intro k
 by_cases hk:k<(n+7)/8
 ·rw[qwK,qxt hk]
  simp only[qwo]
  rw[quH hb h hk]
  have hlt:k<b.length:=by rw[h.len];exact hk
  simp[qwZ,hlt]
 ·rw[qv6 (by simpa using hk),qv6 (by rw[h.len];omega)]
def chkOf (n:Int)(b:qyo):Int :=
 if n<0∨8192<n then 3 else if (b.length:Int)≠(n+7)/8 then 1 else if n%8≠0∧b.getD (n.toNat/8) 0%2^(8-n.toNat%8)≠0 then 1 else 0
theorem ql4 {n:Int}{b:qyo}(h:chkOf n b=0):∃ m:Nat,n=m∧Ok m b:=by
 unfold chkOf at h
 split at h
 ·simp at h
 ·rename_i h1
  split at h
  ·simp at h
  ·rename_i h2
   split at h
   ·simp at h
   ·rename_i h3
    obtain ⟨m,rfl⟩:=qvS (show 0≤n by omega)
    refine ⟨m,rfl,by omega,by omega,fun hm=>?_⟩
    simp only[qvP] at h3
    by_cases hz:b.getD (m/8) 0%2^(8-m%8)=0
    ·exact hz
    ·exact absurd ⟨by omega,hz⟩ h3
theorem qff {F:Nat}{n:Int}{b:qyo}(hb:U8s b)(h1:-9223372036854775808≤n)(h2:n<9223372036854775808)(hm:b.length≤9223372036854775807):yw F n b=some (chkOf n b):=by
 unfold yw chkOf
 by_cases c1:n<0∨8192<n
 ·have:(decide (n<0) || decide (8192<n))=true:=by simpa using c1
  rw[if_pos this,if_pos c1]
 ·have:(decide (n<0) || decide (8192<n))=false:=by simpa using c1
  rw[this,if_neg c1]
  simp only[qv0,if_false]
  obtain ⟨m,rfl⟩:=qvS (show 0≤n by omega)
  have e1:iquo .i64 (iadd .i64 (m:Int) 7) 8=((m:Int)+7)/8:=by
   rw[qD (by omega) (by omega),show (m:Int)+7=((m+7:Nat):Int) from by omega,iquo8 (by omega)]
   omega
  rw[e1,irem8]
  by_cases c2:(b.length:Int)≠((m:Int)+7)/8
  ·have:((b.length:Int) != ((m:Int)+7)/8)=true:=by simpa using c2
   rw[if_pos this,if_pos c2]
  ·have:((b.length:Int) != ((m:Int)+7)/8)=false:=by simpa using c2
   rw[this,if_neg c2]
   simp only[qv0,if_false]
   by_cases c3:m%8=0
   ·have:((((m%8:Nat):Int)) != 0)=false:=by simp[c3]
    have hn:¬ ((m:Int)%8≠0∧b.getD ((m:Int).toNat/8) 0%2^(8-(m:Int).toNat%8)≠0):=fun h=>h.1 (by omega)
    rw[this,if_neg hn]
    simp[jw]
   ·have:((((m%8:Nat):Int)) != 0)=true:=by simp;omega
    rw[this]
    simp only[if_true]
    have hlen:b.length=m/8+1:=by omega
    have e2:isub .i64 (b.length:Int) 1=((m/8:Nat):Int):=by rw[zB (by omega) (by omega)];omega
    have hg:b[m/8]?=some b[m/8]:=by simp[hlen]
    rw[e2,qG,hg]
    simp only[qvK]
    have hc:decide ((0:Int)≤((m%8:Nat):Int))=true:=decide_eq_true (by omega)
    rw[hc]
    simp only[chk,if_true]
    have hx:=hb b[m/8] (qwe (by omega))
    have hgd:b.getD (m/8) 0=b[m/8]:=by simp[qwZ,hg]
    rw[qvP,hgd]
    generalize b[m/8]=x at hx
    have e3:(ishl .u8 x ((m%8:Nat):Int) != 0)=decide (x%2^(8-m%8)≠0):=by
     have key:ishl .u8 x ((m%8:Nat):Int)=(x*2^(m%8))%256:=by
      unfold ishl
      have h:min (((m%8:Nat):Int).toNat) (IntKind.bits .u8)=m%8:=by simp[IntKind.bits];omega
      rw[h,qm3]
     rw[key]
     rcases (by omega:m%8=1∨m%8=2∨m%8=3∨m%8=4∨m%8=5∨m%8=6∨m%8=7) with h | h | h | h | h | h | h <;> rw[h]
     ·rw[show (2:Int)^1=2 from rfl,show (2:Int)^(8-1)=128 from by decide];by_cases hz:x%128=0 <;> simp[hz] <;> omega
     ·rw[show (2:Int)^2=4 from rfl,show (2:Int)^(8-2)=64 from by decide];by_cases hz:x%64=0 <;> simp[hz] <;> omega
     ·rw[show (2:Int)^3=8 from rfl,show (2:Int)^(8-3)=32 from by decide];by_cases hz:x%32=0 <;> simp[hz] <;> omega
     ·rw[show (2:Int)^4=16 from by decide];try rw[show (2:Int)^(8-4)=16 from by decide]
      by_cases hz:x%16=0 <;> simp[hz] <;> omega
     ·rw[show (2:Int)^5=32 from by decide,show (2:Int)^(8-5)=8 from by decide];by_cases hz:x%8=0 <;> simp[hz] <;> omega
     ·rw[show (2:Int)^6=64 from by decide,show (2:Int)^(8-6)=4 from by decide];by_cases hz:x%4=0 <;> simp[hz] <;> omega
     ·rw[show (2:Int)^7=128 from by decide,show (2:Int)^(8-7)=2 from by decide];by_cases hz:x%2=0 <;> simp[hz] <;> omega
    rw[e3]
    unfold jw
    by_cases hz:x%2^(8-m%8)=0
    ·rw[if_neg (by simp[hz]),if_neg (by simp[hz])]
    ·rw[if_pos (by simp[hz]),if_pos ⟨by omega,hz⟩]
theorem qqB {F:Nat}{x:qyo}(h:x.length≤1000000):kX F x=some x:=by
 unfold kX
 rw[yb (by simp;omega)]
 rfl
theorem qrh {F:Nat}{n:Int}{b:qyo}(h:b.length≤1000000):qdK F n b=some (n,b):=by
 unfold qdK
 rw[qqB h]
 rfl
theorem qkM {F:Nat}(hF:20000≤F){n m:Nat}{a b:qyo}(ha:U8s a)(hb:U8s b)(oa:Ok n a)(ob:Ok m b):jb F n a m b=some (((n+m:Nat):Int),pk (bl a n++bl b m)):=by
 unfold jb
 have hal:a.length≤1000000:=by rw[oa.len];have:=oa.max;omega
 rw[qrh hal]
 simp only[qvK,qel,qdt]
 have hm:=ob.max
 have hn:=oa.max
 have:=qmy (F:=F) (n:=(m:Int)) hb (yy:=fun (p:Int×qyo) (x53:Int)=>qaC F p.1 p.2 x53) (fun l x hl hx hlen=>by
  simp only[qaC]
  rw[qqt hl hx (by omega)]
  rfl) (to:=m) (by rw[ob.len];omega) (by omega) F 0 (bl a n) (by omega) (by omega) (qng a n) (by rw[qcm];omega)
 rw[qcm,qrr ha oa,qv5,qxC] at this
 rw[show ((0:Nat):Int)=0 from rfl] at this
 have h2:zO F (fun (x:Int×qyo) (x53:Int)=>match x with | (x45,x48)=>qaC F x45 x48 x53) (m:Int) (m:Int) b F (0,((n:Int),a))=some (.inl (((n+m:Nat):Int),pk (bl a n++bl b m))):=this
 rw[h2]
 rfl
def I64 (n:Int):Prop:=-9223372036854775808≤n∧n<9223372036854775808
theorem qoM {l:qyo}{k:Nat}(hk:k<(l.length+7)/8):(pk l).getD k 0=byt l k:=by
 unfold pk
 simp[qwZ,hk]
theorem qdY {l:qyo}(h:Bit l):U8s (pk l):=by
 intro x hx
 obtain ⟨k,_,rfl⟩:=List.mem_map.1 hx
 exact qg0 h k
theorem qcP (l:qyo):(pk l).length=(l.length+7)/8:=by simp[pk]
theorem qgG {l:qyo}(hm:l.length≤8192):Ok l.length (pk l) where
 max:=hm
 len:=qcP l
 low:=fun h=>by
  rw[qoM (by omega)]
  exact qof
theorem qlZ {l:qyo}(h:Bit l){i:Nat}(hi:i<l.length):bitAt (pk l) i=l.getD i 0:=by
 obtain ⟨k,hk⟩:∃ k,k=i/8:=⟨_,rfl⟩
 obtain ⟨r,hr⟩:∃ r,r=i%8:=⟨_,rfl⟩
 have hl:i=8*k+r:=by omega
 have hr8:r<8:=by omega
 obtain ⟨c0,c1,c2,c3,c4,c5,c6,c7⟩:=qoa (pk l) k
 have hb:(pk l).getD k 0=byt l k:=qoM (by omega)
 rw[hb] at c0 c1 c2 c3 c4 c5 c6 c7
 have hbd:∀ q,0≤l.getD q 0∧l.getD q 0≤1:=fun q=>by have:=h.getD q;omega
 have h0:=hbd (8*k);have h1:=hbd (8*k+1);have h2:=hbd (8*k+2);have h3:=hbd (8*k+3)
 have h4:=hbd (8*k+4);have h5:=hbd (8*k+5);have h6:=hbd (8*k+6);have h7:=hbd (8*k+7)
 clear hbd hb
 unfold byt at c0 c1 c2 c3 c4 c5 c6 c7
 rcases (by omega:r=0∨r=1∨r=2∨r=3∨r=4∨r=5∨r=6∨r=7) with rfl | rfl | rfl | rfl | rfl | rfl | rfl | rfl
 ·rw[hl,qwY,c0];clear c0 c1 c2 c3 c4 c5 c6 c7;generalize l.getD (8*k) 0=y0 at *;generalize l.getD (8*k+1) 0=y1 at *;generalize l.getD (8*k+2) 0=y2 at *;generalize l.getD (8*k+3) 0=y3 at *;generalize l.getD (8*k+4) 0=y4 at *;generalize l.getD (8*k+5) 0=y5 at *;generalize l.getD (8*k+6) 0=y6 at *;generalize l.getD (8*k+7) 0=y7 at *;clear h hi hl hr hk hr8;omega
 ·rw[hl,c1];clear c0 c1 c2 c3 c4 c5 c6 c7;generalize l.getD (8*k) 0=y0 at *;generalize l.getD (8*k+1) 0=y1 at *;generalize l.getD (8*k+2) 0=y2 at *;generalize l.getD (8*k+3) 0=y3 at *;generalize l.getD (8*k+4) 0=y4 at *;generalize l.getD (8*k+5) 0=y5 at *;generalize l.getD (8*k+6) 0=y6 at *;generalize l.getD (8*k+7) 0=y7 at *;clear h hi hl hr hk hr8;omega
 ·rw[hl,c2];clear c0 c1 c2 c3 c4 c5 c6 c7;generalize l.getD (8*k) 0=y0 at *;generalize l.getD (8*k+1) 0=y1 at *;generalize l.getD (8*k+2) 0=y2 at *;generalize l.getD (8*k+3) 0=y3 at *;generalize l.getD (8*k+4) 0=y4 at *;generalize l.getD (8*k+5) 0=y5 at *;generalize l.getD (8*k+6) 0=y6 at *;generalize l.getD (8*k+7) 0=y7 at *;clear h hi hl hr hk hr8;omega
 ·rw[hl,c3];clear c0 c1 c2 c3 c4 c5 c6 c7;generalize l.getD (8*k) 0=y0 at *;generalize l.getD (8*k+1) 0=y1 at *;generalize l.getD (8*k+2) 0=y2 at *;generalize l.getD (8*k+3) 0=y3 at *;generalize l.getD (8*k+4) 0=y4 at *;generalize l.getD (8*k+5) 0=y5 at *;generalize l.getD (8*k+6) 0=y6 at *;generalize l.getD (8*k+7) 0=y7 at *;clear h hi hl hr hk hr8;omega
 ·rw[hl,c4];clear c0 c1 c2 c3 c4 c5 c6 c7;generalize l.getD (8*k) 0=y0 at *;generalize l.getD (8*k+1) 0=y1 at *;generalize l.getD (8*k+2) 0=y2 at *;generalize l.getD (8*k+3) 0=y3 at *;generalize l.getD (8*k+4) 0=y4 at *;generalize l.getD (8*k+5) 0=y5 at *;generalize l.getD (8*k+6) 0=y6 at *;generalize l.getD (8*k+7) 0=y7 at *;clear h hi hl hr hk hr8;omega
 ·rw[hl,c5];clear c0 c1 c2 c3 c4 c5 c6 c7;generalize l.getD (8*k) 0=y0 at *;generalize l.getD (8*k+1) 0=y1 at *;generalize l.getD (8*k+2) 0=y2 at *;generalize l.getD (8*k+3) 0=y3 at *;generalize l.getD (8*k+4) 0=y4 at *;generalize l.getD (8*k+5) 0=y5 at *;generalize l.getD (8*k+6) 0=y6 at *;generalize l.getD (8*k+7) 0=y7 at *;clear h hi hl hr hk hr8;omega
 ·rw[hl,c6];clear c0 c1 c2 c3 c4 c5 c6 c7;generalize l.getD (8*k) 0=y0 at *;generalize l.getD (8*k+1) 0=y1 at *;generalize l.getD (8*k+2) 0=y2 at *;generalize l.getD (8*k+3) 0=y3 at *;generalize l.getD (8*k+4) 0=y4 at *;generalize l.getD (8*k+5) 0=y5 at *;generalize l.getD (8*k+6) 0=y6 at *;generalize l.getD (8*k+7) 0=y7 at *;clear h hi hl hr hk hr8;omega
 ·rw[hl,c7];clear c0 c1 c2 c3 c4 c5 c6 c7;generalize l.getD (8*k) 0=y0 at *;generalize l.getD (8*k+1) 0=y1 at *;generalize l.getD (8*k+2) 0=y2 at *;generalize l.getD (8*k+3) 0=y3 at *;generalize l.getD (8*k+4) 0=y4 at *;generalize l.getD (8*k+5) 0=y5 at *;generalize l.getD (8*k+6) 0=y6 at *;generalize l.getD (8*k+7) 0=y7 at *;clear h hi hl hr hk hr8;omega
theorem qcn {l:qyo}(h:Bit l):bl (pk l) l.length=l:=by
 apply qwU
 intro i
 by_cases hi:i<l.length
 ·have h1:(bl (pk l) l.length)[i]?=some (bitAt (pk l) i):=by simp[bl,hi]
  rw[h1,qlZ h hi]
  simp[qwZ,hi]
 ·rw[qv6 (by rw[qcm];omega),qv6 (by omega)]
theorem qrT (F:Nat){xs ys:qyo}(hl:xs.length=ys.length)(hm:xs.length≤9223372036854775807):∀ (k i:Nat),xs.length<k+i→i≤xs.length →
  km F xs ys k (i:Int)=some (decide (xs.drop i=ys.drop i))
 | 0,i,h,_=>by omega
 | k+1,i,h,hi=>by
  show vM F xs ys (km F xs ys k) i=_
  unfold vM
  by_cases hlt:i<xs.length
  ·have hlt':(i:Int)<(xs.length:Int):=by omega
   have hlt2:i<ys.length:=by omega
   have hg:xs[i]?=some xs[i]:=by simp[hlt]
   have hg2:ys[i]?=some ys[i]:=by simp[hlt2]
   simp only[hlt',decide_true,if_true,qG,hg,hg2,qvK]
   have e:(xs.drop i=ys.drop i)↔(xs[i]=ys[i]∧xs.drop (i+1)=ys.drop (i+1)):=by
    rw[qvV hlt,qvV hlt2,qxi]
   simp only[e]
   by_cases he:xs[i]=ys[i]
   ·simp only[he,bne_self_eq_false,qv0,if_false,true_and]
    rw[qD (by omega) (by omega),show (i:Int)+1=((i+1:Nat):Int) from by omega,qrT F hl hm k (i+1) (by omega) (by omega)]
   ·have:(xs[i] != ys[i])=true:=by simpa using he
    simp only[this,if_true,he,false_and,decide_false]
  ·have hlt':¬ (i:Int)<(xs.length:Int):=by omega
   simp only[hlt',decide_false,qv0,if_false]
   rw[qv1 (by omega),qv1 (by omega)]
   rfl
theorem qeS {F:Nat}{xs ys:qyo}(hF:xs.length<F)(hm:xs.length≤9223372036854775807):jL F xs ys=some (decide (xs=ys)):=by
 unfold jL
 by_cases hl:xs.length=ys.length
 ·have:(((xs.length:Int):Int) != (ys.length:Int))=false:=by simp[hl]
  simp only[this,qv0,if_false]
  have:=qrT F hl hm F 0 (by omega) (by omega)
  simpa using this
 ·have:(((xs.length:Int):Int) != (ys.length:Int))=true:=by simp;omega
  simp only[this,if_true]
  have:xs≠ys:=fun e=>hl (by rw[e])
  simp[this]
theorem qhA {F:Nat}{n m:Int}{xs ys:qyo}(hF:xs.length<F)(hm:xs.length≤9223372036854775807):vm F n xs m ys=some (decide (n=m∧xs=ys)):=by
 unfold vm
 by_cases h:n=m
 ·have hb:(n == m)=true:=by simp[h]
  rw[if_pos hb,qeS hF hm]
  simp[jv,h]
 ·have hb:(n == m)=false:=by simpa using h
  rw[hb]
  simp[jv,h]
theorem ql3 {n:Nat}{b:qyo}(h:Ok n b):chkOf (n:Int) b=0:=by
 unfold chkOf
 have:=h.max
 have:=h.len
 rw[if_neg (by omega),if_neg (by omega),if_neg]
 rintro ⟨h1,h2⟩
 rw[qvP] at h2
 exact h2 (h.low (by omega))
theorem qsL {b:qyo}{n m:Nat}(h:n≤m):(bl b m).take n=bl b n:=by
 unfold bl
 rw[← List.map_take,List.take_range,qw7 h]
theorem kp {l k:qyo}(h:Bit l)(h2:Bit k):Bit (l++k):=by
 intro x hx
 rcases qvQ.1 hx with h3 | h3
 ·exact h x h3
 ·exact h2 x h3
theorem two64:(2:Nat)^64=18446744073709551616:=by decide
theorem qil {n k:Nat}(hn:n<18446744073709551616):ishr .u64 (n:Int) (k:Int)=((n/2^k:Nat):Int):=by
 unfold ishr
 rw[Int.fdiv_eq_ediv_of_nonneg _ (by exact_mod_cast Nat.zero_le _),qvP]
 simp only[IntKind.bits]
 by_cases h:k≤64
 ·rw[qw7 h];norm_cast
 ·rw[Nat.min_eq_right (by omega)]
  have h1:n/2^64=0:=qye (by omega)
  have h2:n/2^k=0:=qye (qxL hn (by rw[← two64];exact qwu (by decide) (by omega)))
  rw[h2]
  have:((n:Int)/2^64)=((n/2^64:Nat):Int):=by norm_cast
  rw[this,h1]
theorem qs4 {n:Nat}(hn:n<18446744073709551616):iand .u64 (n:Int) 1=((n%2:Nat):Int):=by
 have e:=qfr (k:=.u64) (a:=(n:Int)) (m:=1) (by omega) (by simp only[IntKind.bits];rw[show (2:Int)^64=18446744073709551616 from by decide];omega) (by decide) rfl
 rw[show ((2^1-1:Nat):Int)=1 from rfl,show (2:Int)^1=2 from rfl] at e
 rw[e];omega
theorem qno {n k:Nat}(hk:k≤64):ishl .u64 (n:Int) (k:Int)=((n*2^k%18446744073709551616:Nat):Int):=by
 rw[qik hk,Int.natCast_emod,qw2,Int.natCast_pow];rfl
theorem qvs {a b m:Nat}(ha:a<2^m)(hb:b%2^m=0)(h:a+b<18446744073709551616):ior .u64 (b:Int) (a:Int)=((b+a:Nat):Int):=by
 rw[qmk,qoB (m:=m) (by omega) (by exact_mod_cast ha) (by omega) (by exact_mod_cast hb) rfl (by simp only[IntKind.bits];rw[show (2:Int)^64=18446744073709551616 from by decide];omega)]
 omega
theorem jr {a b:Nat}(h:a+b<9223372036854775808):iadd .i64 (a:Int) (b:Int)=((a+b:Nat):Int):=by rw[qD (by omega) (by omega)];omega
theorem qC {a:Nat}(h:a+1<9223372036854775808):iadd .i64 (a:Int) 1=((a+1:Nat):Int):=by rw[qD (by omega) (by omega)];omega
theorem qk5 {a b:Nat}(h:b≤a)(h2:a<9223372036854775808):isub .i64 (a:Int) (b:Int)=((a-b:Nat):Int):=by rw[zB (by omega) (by omega)];omega
theorem qco {a:Nat}(h:1≤a)(h2:a<9223372036854775808):isub .i64 (a:Int) 1=((a-1:Nat):Int):=by rw[zB (by omega) (by omega)];omega
def nb (n:Nat):Nat→qyo
 | 0=>[]
 | w+1=>((n/2^w%2:Nat):Int)::nb n w
theorem qcq (n:Nat):∀ w,(nb n w).length=w
 | 0=>rfl
 | w+1=>by simp[nb,qcq n w]
theorem qir (n:Nat):∀ w,Bit (nb n w)
 | 0=>by intro x hx;simp[nb] at hx
 | w+1=>by
  intro x hx
  rcases qvR.1 hx with rfl | h
  ·omega
  ·exact qir n w x h
def bv (l:qyo):Nat:=l.foldl (fun n b=>2*n+b.toNat) 0
theorem qsP (l:qyo):∀ m,l.foldl (fun n b=>2*n+b.toNat) m=m*2^l.length+bv l:=by
 induction l with
 | nil=>intro m;simp[bv]
 | cons x l ih =>
  intro m
  show l.foldl _ _=_
  rw[ih]
  show _=_+l.foldl _ _
  rw[ih,qwa,qxr]
  generalize 2^l.length=p
  rw[qxe,qxe]
  have:2*m*p=m*(p*2):=by rw[qxg 2 m,Nat.mul_assoc,qxg 2 p]
  omega
theorem qqy (l k:qyo):bv (l++k)=bv l*2^k.length+bv k:=by
 unfold bv
 rw[List.foldl_append,qsP k];rfl
theorem qkN (x:Int)(l:qyo):bv (x::l)=x.toNat*2^l.length+bv l:=by
 have:=qqy [x] l
 simpa[bv] using this
theorem qod {l:qyo}(h:Bit l):bv l<2^l.length:=by
 induction l with
 | nil=>simp[bv]
 | cons x l ih =>
  have h1:=ih (fun y hy=>h y (qv7 _ hy))
  rw[qkN,qwa,qxr]
  rcases h x qwf with rfl | rfl
  ·simp;omega
  ·simp;omega
theorem qh6 (n:Nat):∀ w,bv (nb n w)=n%2^w
 | 0=>by simp[nb,bv,Nat.mod_one]
 | w+1=>by
  rw[nb,qkN,qcq,qh6 n w,qvP,qxr,Nat.mod_mul,qxg,qxq]
theorem qrd (n a:Nat):∀ b,nb n (b+a)=nb (n/2^a) b++nb n a
 | 0=>by simp[nb]
 | b+1=>by
  rw[show b+1+a=(b+a)+1 from by omega,nb,qrd n a b,nb,qwQ]
  congr 3
  rw[Nat.div_div_eq_div_mul,← qx8,qxq]
theorem qta (n w:Nat):nb n (w+1)=nb (n/2) w++[((n%2:Nat):Int)]:=by
 have:=qrd n 1 w
 simpa[nb] using this
theorem qmr {F:Nat}{n:Nat}(hn:n<18446744073709551616):∀ (w k:Nat) (l:qyo),w<k→Bit l→l.length+w≤100000 →
  zJ F (n:Int) k ((w:Int)-1,(l.length:Int),pk l)=some (((l.length+w:Nat):Int),pk (l++nb n w))
 | _,0,_,h,_,_=>by omega
 | 0,k+1,l,_,_,_=>by
  show zI F (n:Int) _ (((0:Nat):Int)-1) (l.length:Int) (pk l)=_
  unfold zI
  rw[if_neg (by simp)]
  simp[nb]
 | w+1,k+1,l,h,hl,hm=>by
  show zI F (n:Int) (zJ F (n:Int) k) (((w+1:Nat):Int)-1) (l.length:Int) (pk l)=_
  unfold zI
  rw[show ((w+1:Nat):Int)-1=(w:Int) from by omega,if_pos (by simp)]
  have hc:decide ((0:Int)≤(w:Int))=true:=decide_eq_true (by omega)
  rw[hc]
  simp only[chk,if_true]
  rw[qil hn,qs4 (by have:=qwW n (2^w);omega)]
  have hx:((n/2^w%2:Nat):Int)=0∨((n/2^w%2:Nat):Int)=1:=by omega
  rw[qqt hl hx (by omega)]
  simp only[qvK]
  rw[zB (by omega) (by omega)]
  have:=qmr (F:=F) hn w k (l++[((n/2^w%2:Nat):Int)]) (by omega) (kp hl (by intro y hy;simp only[List.mem_singleton] at hy;rw[hy];exact hx)) (by simp;omega)
  rw[show (l++[((n/2^w%2:Nat):Int)]).length=l.length+1 from by simp] at this
  rw[this,qvM,show l.length+1+w=l.length+(w+1) from by omega]
  rfl
theorem qpQ {F:Nat}{n w:Nat}{l:qyo}(hn:n<18446744073709551616)(hF:w<F)(hl:Bit l)(hm:l.length+w≤100000) :
  vp F (l.length:Int) (pk l) (n:Int) (w:Int)=some (((l.length+w:Nat):Int),pk (l++nb n w)):=by
 unfold vp
 rw[zB (by omega) (by omega)]
 exact qmr hn w F l hF hl hm
theorem quy {F:Nat}{n w m:Nat}{b:qyo}(hn:n<18446744073709551616)(hF:w<F)(hb:U8s b)(ob:Ok m b)(hw:w≤10000) :
  yJ F (m:Int) b (n:Int) (w:Int)=some (((m+w:Nat):Int),pk (bl b m++nb n w)):=by
 unfold yJ
 have:=ob.max
 rw[qrh (by rw[ob.len];omega)]
 simp only[qvK]
 have h:=qpQ (F:=F) (l:=bl b m) hn hF (qng _ _) (by rw[qcm];omega)
 rw[qcm,qrr hb ob] at h
 rw[h];rfl
def U64 (n:Int):Prop:=0≤n∧n<18446744073709551616
theorem quB {b:qyo}{n i:Nat}(h:i<n):(bl b n)[i]?=some (bitAt b i):=by simp[bl,h]
theorem qrE {F:Nat}{n:Int}{m a w:Nat}{b:qyo}(hb:U8s b)(hlen:m≤8*b.length)(hm:m≤10000)(ha:a+w≤m)(hw:w≤64):∀ (k i v:Nat),w<k+i→i≤w→v<2^i →
  vO F n b (a:Int) (w:Int) k ((v:Int),(i:Int))=some (((v*2^(w-i)+bv (((bl b m).drop (a+i)).take (w-i)):Nat):Int),true)
 | 0,_,_,_,_,_=>by omega
 | k+1,i,v,h,hi,hv=>by
  show qbY F n b (a:Int) (w:Int) (vO F n b (a:Int) (w:Int) k) (v:Int) (i:Int)=_
  unfold qbY
  by_cases hlt:i<w
  ·rw[if_pos (by simp;omega),jr (by omega),qqo hb (by omega) (by omega)]
   simp only[qvK]
   have hx:=qgY b (a+i)
   have hv64:2*v+1<18446744073709551616:=by
    have:2^(i+1)≤2^64:=qwu (by decide) (by omega)
    rw[qxr,two64] at this
    omega
   obtain ⟨x,hxe⟩:∃ x:Nat,bitAt b (a+i)=(x:Int):=qvS (by omega)
   have hx1:x<2:=by omega
   have e1:ishl .u64 (v:Int) 1=((v*2:Nat):Int):=by
    have:=qno (n:=v) (k:=1) (by decide)
    rw[show ((1:Nat):Int)=1 from rfl] at this
    rw[this];omega
   have e2:ior .u64 ((v*2:Nat):Int) (x:Int)=((v*2+x:Nat):Int):=qvs (m:=1) (by omega) (by omega) (by omega)
   rw[hxe,e1,e2,qC (by omega)]
   rw[qrE hb hlen hm ha hw k (i+1) (v*2+x) (by omega) (by omega) (by rw[qxr];omega)]
   have hd:((bl b m).drop (a+i)).take (w-i)=(x:Int)::((bl b m).drop (a+(i+1))).take (w-(i+1)):=by
    rw[qvV (by rw[qcm];omega),show w-i=(w-(i+1))+1 from by omega,qx3,show a+i+1=a+(i+1) from by omega]
    congr 1
    have:=quB (b:=b) (n:=m) (i:=a+i) (by omega)
    rw[qvL (by rw[qcm];omega)] at this
    rw[← hxe];exact qxK this
   rw[hd,qkN,qvP]
   have hl:(((bl b m).drop (a+(i+1))).take (w-(i+1))).length=w-(i+1):=by simp[qcm];omega
   rw[hl,show w-i=(w-(i+1))+1 from by omega,qxr,qxe]
   congr 3
   rw[Nat.mul_assoc,qxg 2,qw1]
  ·rw[if_neg (by simp;omega)]
   rw[show w-i=0 from by omega]
   simp[qdJ,bv]
theorem qtn {F:Nat}{m a w:Nat}{b:qyo}(hF:100≤F)(hb:U8s b)(ob:Ok m b)(ha:a≤m)(hw:w≤64) :
  vn F (m:Int) b (a:Int) (w:Int)=some (if a+w≤m then (((bv (((bl b m).drop a).take w):Nat):Int),true) else (0,false)):=by
 unfold vn
 have hmx:=ob.max
 rw[qk5 ha (by omega)]
 by_cases h:a+w≤m
 ·rw[if_neg (by simp;omega),if_pos h]
  have:=qrE (F:=F) (n:=(m:Int)) (m:=m) (a:=a) (w:=w) hb (by rw[ob.len];omega) (by omega) h hw F 0 0 (by omega) (by omega) (by decide)
  simpa using this
 ·rw[if_pos (by simp;omega),if_neg h]
theorem qaQ {n:Nat}(h:n<9223372036854775808):iconv .i64 (n:Int)=(n:Int):=kE (by omega) (by omega)
theorem yd {n:Nat}(h:n<18446744073709551616):iconv .u64 (n:Int)=(n:Int):=yR (by omega) (by omega)
theorem qt8 {l:qyo}(h:Bit l){i:Nat}(hi:i<l.length):∃ x:Nat,l[i]?=some (x:Int)∧x<2:=by
 have:=h l[i] (qwe hi)
 obtain ⟨x,hx⟩:=qvS (show 0≤l[i] by omega)
 exact ⟨x,by rw[qvL hi,hx],by omega⟩
theorem qph {α:Type}{l:List α}{i j:Nat}(h1:i≤j)(h2:j≤l.length):sub l (i:Int) (j:Int)=some ((l.take j).drop i):=by
 unfold sub
 rw[if_pos ⟨by omega,by omega,by omega⟩,qvP,qvP]
theorem qfe {l:qyo}(h:Bit l)(i:Nat):Bit (l.drop i):=fun x hx=>h x (List.mem_of_mem_drop hx)
theorem qev {l:qyo}(h:Bit l)(i:Nat):Bit (l.take i):=fun x hx=>h x (qxn hx)
theorem qfg {n:Int}{b:qyo}(hb:U8s b):chkOf n b≠0∨∃ l:qyo,Bit l∧l.length≤8192∧n=(l.length:Int)∧b=pk l:=by
 by_cases h:chkOf n b=0
 ·obtain ⟨m,rfl,ob⟩:=ql4 h
  exact .inr ⟨bl b m,qng _ _,by rw[qcm];exact ob.max,by rw[qcm],(qrr hb ob).symm⟩
 ·exact .inl h
theorem qeJ {l:qyo}(hm:l.length≤8192):chkOf (l.length:Int) (pk l)=0:=ql3 (qgG hm)
theorem qoA {l:qyo}(h:l.length≤8192):I64 (l.length:Int):=⟨by omega,by omega⟩
theorem qhP {l:qyo}(h:l.length≤8192):(pk l).length≤9223372036854775807:=by rw[qcP];omega
theorem qmx {l:qyo}(h:l.length≤8192):(pk l).length≤2000:=by rw[qcP];omega
theorem qu0:pk []=[]:=rfl
theorem qp2 {F:Nat}{n:Int}{xs:qyo}(hF:xs.length<F)(hm:xs.length≤1000000):vm F n xs n xs=some true:=by
 rw[qhA hF (by omega)];simp
theorem qnA {l k:qyo}(hl:Bit l)(hk:Bit k)(h:l.length=k.length)(e:pk l=pk k):l=k:=by
 rw[← qcn hl,← qcn hk,h,e]
theorem qiL (F:Nat)(xs ys:qyo):∀ k,zS F xs ys k=km F xs ys k
 | 0=>rfl
 | k+1=>by
  funext i
  show yo F xs ys (zS F xs ys k) i=vM F xs ys (km F xs ys k) i
  rw[qiL F xs ys k];rfl
theorem qfP (F:Nat)(xs ys:qyo):qL F xs ys=jL F xs ys:=by
 unfold qL jL;rw[qiL]
def un (n:Nat):qyo:=qvU n 0++[1]
theorem qf9 (n:Nat):(un n).length=n+1:=by simp[un]
theorem qeI (n:Nat):Bit (qvU n 0):=by intro x hx;left;exact (List.mem_replicate.1 hx).2
theorem qob:Bit [1]:=by intro x hx;right;simpa using hx
theorem qlv (n:Nat):Bit (un n):=kp (qeI n) qob
theorem qu1 (n:Nat):pk (qvU n 0)=qvU ((n+7)/8) 0:=by
 unfold pk
 rw[qww]
 apply qwU
 intro k
 by_cases hk:k<(n+7)/8
 ·have hz:∀ i,(qvU n (0:Int)).getD i 0=0:=by
   intro i
   by_cases h:i<n
   ·simp[qwZ,h]
   ·exact qay (by simp;omega)
  rw[qwK,qxt hk,List.getElem?_replicate,if_pos hk]
  simp only[qwo,byt,hz]
  rfl
 ·rw[qv6 (by simpa using hk),qv6 (by simpa using hk)]
theorem qf2 {F:Nat}{n w:Nat}{l:qyo}(hn:n<18446744073709551616)(hF:w<F)(hl:Bit l)(hm:l.length≤8192)(hw:w≤10000) :
  yJ F (l.length:Int) (pk l) (n:Int) (w:Int)=some (((l++nb n w).length:Int),pk (l++nb n w)):=by
 rw[quy hn hF (qdY hl) (qgG hm) hw,qcn hl,qvN,qcq]
theorem qrB {F n:Nat}(hF:20000≤F)(hn:n<8192):qdq F (n:Int)=some (((un n).length:Int),pk (un n)):=by
 unfold qdq
 have e:iquo .u64 (iadd .u64 (n:Int) 7) 8=(((n+7)/8:Nat):Int):=by
  unfold iquo iadd
  rw[yR (n:=(n:Int)+7) (by omega) (by omega),qxk (by omega),yR (by omega) (by omega)]
  omega
 rw[e]
 have hmk:mk 140737488355328 (0:Int) (((n+7)/8:Nat):Int)=some (pk (qvU n 0)):=by
  unfold mk
  rw[if_pos (by omega),qvP,qu1]
 rw[hmk]
 simp only[qvK]
 rw[qaQ (by omega)]
 have h:=qf2 (F:=F) (n:=1) (w:=1) (l:=qvU n 0) (by decide) (by omega) (qeI n) (by simp;omega) (by decide)
 rw[qww] at h
 rw[show ((1:Nat):Int)=1 from rfl] at h
 rw[h]
 rfl
def fz:qyo→Option Nat
 | []=>none
 | x::l=>if x=1 then some 0 else (fz l).map (·+1)
theorem qud (n:Nat)(r:qyo):fz (un n++r)=some n:=by
 induction n with
 | zero=>simp[un,fz]
 | succ n ih =>
  have:un (n+1)++r=0::(un n++r):=by simp[un,qwG]
  rw[this,fz,if_neg (by decide),ih];rfl
theorem quc {l:qyo}{n:Nat}(h:fz l=some n):n<l.length:=by
 induction l generalizing n with
 | nil=>simp[fz] at h
 | cons x l ih =>
  unfold fz at h
  split at h
  ·simp at h;subst h;simp
  ·cases hf:fz l with
   | none=>rw[hf] at h;simp at h
   | some m=>rw[hf] at h;simp at h;subst h;have:=ih hf;simp;omega
theorem qjJ {F:Nat}{m:Int}{l:qyo}(hl:Bit l)(hm:l.length≤90000){i:Nat}(hi:i<l.length):vN F m (pk l) (i:Int)=some l[i]:=by
 rw[qqo (qdY hl) (by rw[qcP];omega) (by omega),qlZ hl hi]
 simp[qwZ,hi]
theorem qqP {F:Nat}{l:qyo}(hl:Bit l)(hm:l.length≤8192)(a:Nat):∀ (k i:Nat),l.length<k+i→i≤l.length→a≤i →
  vi F (l.length:Int) (pk l) (a:Int) k (i:Int)=some (match fz (l.drop i) with | none=>(0,0,false) | some n=>(((i-a+n:Nat):Int),((i+n+1:Nat):Int),true))
 | 0,_,_,_,_=>by omega
 | k+1,i,h,hi,ha=>by
  show qbI F (l.length:Int) (pk l) (a:Int) (vi F (l.length:Int) (pk l) (a:Int) k) (i:Int)=_
  unfold qbI
  by_cases hlt:i<l.length
  ·rw[if_pos (by simp;omega),qjJ hl (by omega) hlt,qvV hlt,fz]
   simp only[qvK]
   by_cases h1:l[i]=1
   ·rw[if_pos (by simpa using h1),if_pos h1,qk5 ha (by omega),yd (by omega),qC (by omega)]
    rfl
   ·rw[if_neg (by simpa using h1),if_neg h1,qC (by omega),qqP hl hm a k (i+1) (by omega) (by omega) (by omega)]
    cases fz (l.drop (i+1)) with
    | none=>rfl
    | some n =>
     simp only[qwo]
     rw[show i+1-a+n=i-a+(n+1) from by omega,show i+1+n+1=i+(n+1)+1 from by omega]
  ·rw[if_neg (by simp;omega),qv1 (by omega)]
   rfl
theorem qon {F:Nat}(hF:20000≤F){l:qyo}(hl:Bit l)(hm:l.length≤8192){a:Nat}(ha:a≤l.length) :
  qck F (l.length:Int) (pk l) (a:Int)=some (match fz (l.drop a) with | none=>(0,0,false) | some n=>((n:Int),((a+n+1:Nat):Int),true)):=by
 unfold qck
 have:=qqP (F:=F) hl hm a F a (by omega) ha (by omega)
 rw[this]
 cases fz (l.drop a) with
 | none=>rfl
 | some n=>simp only;rw[Nat.sub_self,Nat.zero_add]
def raOf (m:Int)(b:qyo)(a:Int):Int:=if chkOf m b≠0 then chkOf m b else if a<0∨m<a then 3 else 0
theorem qu3 {m a:Int}{b:qyo}(h:chkOf m b≠0):raOf m b a=chkOf m b:=by unfold raOf;rw[if_pos h]
theorem qrA {l:qyo}{a:Int}(h1:l.length≤8192)(h:¬ (0≤a∧a≤(l.length:Int))):raOf (l.length:Int) (pk l) a=3:=by
 unfold raOf;rw[if_neg (by simp[qeJ h1]),if_pos (by omega)]
theorem qtl {l:qyo}{a:Nat}(h1:l.length≤8192)(h:a≤l.length):raOf (l.length:Int) (pk l) (a:Int)=0:=by
 unfold raOf;rw[if_neg (by simp[qeJ h1]),if_neg (by omega)]
theorem qrz {m a:Int}{b:qyo}(hb:U8s b):raOf m b a≠0∨∃ (l:qyo) (i:Nat),Bit l∧l.length≤8192∧m=(l.length:Int)∧b=pk l∧a=(i:Int)∧i≤l.length:=by
 rcases qfg hb (n:=m) with h | ⟨l,hl,hm,rfl,rfl⟩
 ·left;rw[qu3 h];exact h
 ·by_cases h:0≤a∧a≤(l.length:Int)
  ·obtain ⟨i,rfl⟩:=qvS h.1
   exact .inr ⟨l,i,hl,hm,rfl,rfl,rfl,by omega⟩
  ·left;rw[qrA hm h];decide
theorem qiF {F:Nat}{l:qyo}(hl:l.length<17592186044416):qaW F l=some (l,[77]):=by
 unfold qaW
 rw[qD (by omega) (by omega),yb (by simp;omega)]
 simp only[qvK,qv8]
 rw[yb (by simp;omega)]
 simp only[qvK,cutP]
 rw[if_pos (by simp;omega)]
 simp[chk]
 omega
theorem qhz {F:Nat}{n:Int}{l:qyo}(hl:l.length<140737488355328):yv F n l=some (n,(l,[77])):=by
 unfold yv
 rw[qD (by omega) (by omega),yb (by simp;omega)]
 simp only[qvK,qv8]
 rw[yb (by simp;omega)]
 simp only[qvK,cutP]
 rw[if_pos (by simp;omega)]
 simp[chk,ju]
 omega
theorem quk {F:Nat}{rec7:(List (qyo)×Int)→Option (List (qyo))}{ls:List (qyo)}{i:Int}{l:qyo}(hm:l.length≤100000):∀ (k j:Nat) (xs:qyo),xs.length=l.length→j≤xs.length→xs.length<k+j →
  ∃ ys:qyo,ys.length=l.length∧yZ F rec7 ls i l k (xs,(j:Int))=qbV F rec7 i (ls.set i.toNat ys)
 | 0,_,_,_,_,h=>by omega
 | k+1,j,xs,hx,hj,h=>by
  show ∃ ys:qyo,ys.length=l.length∧qbr F rec7 ls i l (yZ F rec7 ls i l k) xs (j:Int)=_
  unfold qbr
  by_cases hlt:j<xs.length
  ·have h1:(j:Int)<(xs.length:Int):=by omega
   simp only[h1,decide_true,if_true,qG,qvL hlt,qvK,lett]
   rw[qD (by omega) (by omega)]
   exact quk hm k (j+1) _ (by simp[hx]) (by simp;omega) (by simp;omega)
  ·have h1:¬ (j:Int)<(xs.length:Int):=by omega
   refine ⟨xs,hx,?_⟩
   rw[if_neg (by simpa using h1)]
   simp only[hx,decide_true,chk,if_true,lett]
theorem qul {F:Nat}{x1:List (qyo)}(hm:x1.length≤100000)(hF:100000<F):∀ (k i:Nat) (ls:List (qyo)),ls.length=x1.length→(∀ l∈ls,l.length≤100000)→i≤ls.length→ls.length<k+i →
  ∃ r:List (qyo),r.length=x1.length∧zN F x1 k (ls,(i:Int))=some r
 | 0,_,_,_,_,_,h=>by omega
 | k+1,i,ls,he,hl,hi,h=>by
  show ∃ r:List (qyo),r.length=x1.length∧qbU F x1 (zN F x1 k) ls (i:Int)=_
  unfold qbU
  by_cases hlt:i<ls.length
  ·have h1:(i:Int)<(x1.length:Int):=by omega
   simp only[h1,decide_true,if_true,qG,qvL hlt,qvK]
   have hli:=hl _ (qwe hlt)
   obtain ⟨ys,hy,e⟩:=quk (F:=F) (rec7:=zN F x1 k) (ls:=ls) (i:=(i:Int)) hli F 0 ls[i] rfl (by omega) (by omega)
   rw[show (0:Int)=((0:Nat):Int) from rfl,e]
   unfold qbV
   rw[qD (by omega) (by omega)]
   refine qul hm hF k (i+1) _ (by simp[he]) (fun l h=>?_) (by simp;omega) (by simp;omega)
   rcases List.mem_or_eq_of_mem_set h with h | rfl
   ·exact hl l h
   ·omega
  ·have h1:¬ (i:Int)<(x1.length:Int):=by omega
   simp only[h1,decide_false,qv0,if_false]
   exact ⟨ls,he,rfl⟩
theorem qiN {F:Nat}{ls:List (qyo)}(hm:ls.length≤100000)(hF:100000<F)(hl:∀ l∈ls,l.length≤100000):∃ r:List (qyo),r.length=ls.length∧qd9 F ls=some r :=
 qul hm hF F 0 ls rfl hl (by omega) (by omega)
theorem qrW {F:Nat}{rec7:(List (Int×qyo)×Int)→Option (List (Int×qyo))}{ls:List (Int×qyo)}{i:Int}{l:Int×qyo}(hm:l.2.length≤100000):∀ (k j:Nat) (xs:qyo),xs.length=l.2.length→j≤xs.length→xs.length<k+j →
  ∃ ys:qyo,ys.length=l.2.length∧kH F rec7 ls i l k ((j:Int),xs)=jh F rec7 i (ls.set i.toNat (l.1,ys))
 | 0,_,_,_,_,h=>by omega
 | k+1,j,xs,hx,hj,h=>by
  show ∃ ys:qyo,ys.length=l.2.length∧vJ F rec7 ls i l (kH F rec7 ls i l k) (j:Int) xs=_
  unfold vJ
  by_cases hlt:j<xs.length
  ·have h1:(j:Int)<(xs.length:Int):=by omega
   simp only[h1,decide_true,if_true,qG,qvL hlt,qvK,lett]
   rw[qD (by omega) (by omega)]
   exact qrW hm k (j+1) _ (by simp[hx]) (by simp;omega) (by simp;omega)
  ·have h1:¬ (j:Int)<(xs.length:Int):=by omega
   refine ⟨xs,hx,?_⟩
   rw[if_neg (by simpa using h1)]
   simp only[hx,decide_true,chk,if_true,lett]
theorem qrX {F:Nat}{x1:List (Int×qyo)}(hm:x1.length≤100000)(hF:100000<F):∀ (k i:Nat) (ls:List (Int×qyo)),ls.length=x1.length→(∀ l∈ls,l.2.length≤100000)→i≤ls.length→ls.length<k+i →
  ∃ r:List (Int×qyo),r.length=x1.length∧zb F x1 k (ls,(i:Int))=some r
 | 0,_,_,_,_,_,h=>by omega
 | k+1,i,ls,he,hl,hi,h=>by
  show ∃ r:List (Int×qyo),r.length=x1.length∧jg F x1 (zb F x1 k) ls (i:Int)=_
  unfold jg
  by_cases hlt:i<ls.length
  ·have h1:(i:Int)<(x1.length:Int):=by omega
   simp only[h1,decide_true,if_true,qG,qvL hlt,qvK]
   have hli:=hl _ (qwe hlt)
   obtain ⟨ys,hy,e⟩:=qrW (F:=F) (rec7:=zb F x1 k) (ls:=ls) (i:=(i:Int)) hli F 0 ls[i].2 rfl (by omega) (by omega)
   rw[show (0:Int)=((0:Nat):Int) from rfl,e]
   unfold jh
   rw[qD (by omega) (by omega)]
   refine qrX hm hF k (i+1) _ (by simp[he]) (fun l h=>?_) (by simp;omega) (by simp;omega)
   rcases List.mem_or_eq_of_mem_set h with h | rfl
   ·exact hl l h
   ·simp only;omega
  ·have h1:¬ (i:Int)<(x1.length:Int):=by omega
   simp only[h1,decide_false,qv0,if_false]
   exact ⟨ls,he,rfl⟩
theorem qiM {F:Nat}{ls:List (Int×qyo)}(hm:ls.length≤100000)(hF:100000<F)(hl:∀ l∈ls,l.2.length≤100000):∃ r:List (Int×qyo),r.length=ls.length∧qds F ls=some r :=
 qrX hm hF F 0 ls rfl hl (by omega) (by omega)
theorem qk6 {F:Nat}{l:qyo}(hF:l.length<F)(hm:l.length<17592186044416):qdm F (l,[77]) l=some true:=by
 unfold qdm
 rw[qfP,qeS hF (by omega)]
 simp only[qvK,decide_true,if_true]
 rw[qD (by omega) (by omega),qG]
 simp[chk,qd8]
theorem qhx {F:Nat}{n:Int}{l:qyo}(hF:l.length<F)(hm:l.length<140737488355328):jf F n (l,[77]) n l=some true:=by
 unfold jf
 rw[qhA hF (by omega)]
 simp only[qvK,and_self,decide_true,if_true]
 rw[qD (by omega) (by omega),qG]
 simp[chk,qbq]
theorem qoc {F:Nat}(hF:20000≤F){l k:qyo}(hl:Bit l)(hk:Bit k)(h1:l.length≤8192)(h2:k.length≤8192) :
  jb F (l.length:Int) (pk l) (k.length:Int) (pk k)=some (((l++k).length:Int),pk (l++k)):=by
 rw[qkM hF (qdY hl) (qdY hk) (qgG h1) (qgG h2),qcn hl,qcn hk,qvN]
def N64 (l:qyo):Prop:=∀ x∈l,0≤x∧x<18446744073709551616
def len (x:Nat):Nat:=if x=0 then 0 else x.log2+1
theorem qeq {x k:Nat}:len x≤k↔x<2^k:=by
 unfold len
 by_cases h:x=0
 ·rw[if_pos h,h];simp[qw5]
 ·rw[if_neg h];exact Nat.log2_lt h
theorem qip {x k:Nat}(h1:x<2^k)(h2:k=0∨2^(k-1)≤x):len x=k:=by
 have h3:=qeq.2 h1
 rcases h2 with rfl | h2
 ·omega
 ·by_cases h4:len x≤k-1
  ·have:=qeq.1 h4;omega
  ·omega
theorem qnu {x:Nat}:x<2^len x:=qeq.1 (qv3 _)
theorem qnt {x:Nat}(h:x≠0):2^(len x-1)≤x:=by
 have h1:1≤len x:=by unfold len;rw[if_neg h];omega
 apply Nat.le_of_not_lt
 intro h2
 have:=qeq.2 h2
 omega
theorem qgA {x:Nat}(h:x≠0):1≤len x:=by unfold len;rw[if_neg h];omega
theorem qg8 {x k:Nat}(h:2^k≤x):len (x/2^k)+k=len x:=by
 have hp:0<2^k:=qw5 (by decide)
 have hx:x≠0:=by omega
 have hd:x/2^k≠0:=by
  intro h0
  rw[Nat.div_eq_zero_iff] at h0
  omega
 symm
 apply qip
 ·rw[qx8]
  have:=qnu (x:=x/2^k)
  exact (Nat.div_lt_iff_lt_mul hp).1 this
 ·right
  have h1:=qgA hd
  have:=qnt hd
  rw[show len (x/2^k)+k-1=len (x/2^k)-1+k from by omega,qx8]
  exact (Nat.le_div_iff_mul_le hp).1 this
theorem qs6:∀ x:Fin 256,∀ k:Fin 8,k9 0 ((x.val:Nat):Int) ((8*k.val:Nat):Int)=some ((len x.val+8*k.val:Nat):Int):=by decide +kernel
theorem qoE {F x k:Nat}(hx:x<256)(hk:k≤56)(h8:k%8=0):k9 F (x:Int) (k:Int)=some ((len x+k:Nat):Int):=by
 have h:=qs6 ⟨x,hx⟩ ⟨k/8,by omega⟩
 simp only at h
 rw[show 8*(k/8)=k from by omega] at h
 exact h
theorem qoD {F x k:Nat}(hx:x<65536)(hk:k≤48)(h8:k%8=0):k8 F (x:Int) (k:Int)=some ((len x+k:Nat):Int):=by
 unfold k8
 by_cases h:256≤x
 ·have e:=qil (n:=x) (k:=8) (by omega)
  rw[show ((8:Nat):Int)=8 from rfl] at e
  have e2:iadd .i64 (k:Int) 8=((k+8:Nat):Int):=by rw[qD (by omega) (by omega)];omega
  rw[if_pos (by simp;omega),e,e2,qoE (by omega) (by omega) (by omega),← qg8 (x:=x) (k:=8) (by omega)]
  congr 2;omega
 ·rw[if_neg (by simp;omega),qoE (by omega) (by omega) (by omega)]
theorem qoC {F x k:Nat}(hx:x<4294967296)(hk:k≤32)(h8:k%8=0):k7 F (x:Int) (k:Int)=some ((len x+k:Nat):Int):=by
 unfold k7
 by_cases h:65536≤x
 ·have e:=qil (n:=x) (k:=16) (by omega)
  rw[show ((16:Nat):Int)=16 from rfl] at e
  have e2:iadd .i64 (k:Int) 16=((k+16:Nat):Int):=by rw[qD (by omega) (by omega)];omega
  rw[if_pos (by simp;omega),e,e2,qoD (by omega) (by omega) (by omega),← qg8 (x:=x) (k:=16) (by omega)]
  congr 2;omega
 ·rw[if_neg (by simp;omega),qoD (by omega) (by omega) (by omega)]
theorem qio {F x:Nat}(hx:x<18446744073709551616):yj F (x:Int)=some ((len x:Nat):Int):=by
 unfold yj
 by_cases h:4294967296≤x
 ·have e:=qil (n:=x) (k:=32) (by omega)
  rw[show ((32:Nat):Int)=32 from rfl] at e
  have:=qoC (F:=F) (x:=x/2^32) (k:=32) (by omega) (by omega) (by omega)
  rw[show ((32:Nat):Int)=32 from rfl] at this
  rw[if_pos (by simp;omega),e,this,qg8 (x:=x) (k:=32) (by omega)]
 ·have:=qoC (F:=F) (x:=x) (k:=0) (by omega) (by omega) (by omega)
  rw[show ((0:Nat):Int)=0 from rfl] at this
  rw[if_neg (by simp;omega),this,qwY]
def lg (n:Nat):Nat:=len (n+1)-1
theorem quf {n:Nat}:2^lg n≤n+1:=qnt (by omega)
theorem qug {n:Nat}:n+1<2^(lg n+1):=by
 have h:=qgA (x:=n+1) (by omega)
 unfold lg
 rw[Nat.sub_add_cancel h];exact qnu
theorem qpO {n k:Nat}(h1:2^k≤n+1)(h2:n+1<2^(k+1)):lg n=k:=by
 have:len (n+1)=k+1:=qip h2 (.inr h1)
 unfold lg;omega
theorem qex {n:Nat}(h:n≤1099511627776):lg n≤40:=by
 have:len (n+1)≤41:=qeq.2 (by omega)
 unfold lg;omega
theorem qvu {n:Nat}(h:n+1<18446744073709551616):lg n≤63:=by
 have:len (n+1)≤64:=qeq.2 (by rw[two64];exact h)
 unfold lg;omega
theorem qtp {F n:Nat}(h:n+1<18446744073709551616):qdx F (n:Int)=some ((lg n:Nat):Int):=by
 unfold qdx
 have e:iadd .u64 (n:Int) 1=((n+1:Nat):Int):=by unfold iadd;rw[yR (by omega) (by omega)];omega
 rw[e,qio (by omega)]
 simp only[qvK]
 have h1:=qgA (x:=n+1) (by omega)
 have h2:len (n+1)≤64:=qeq.2 (by rw[two64];omega)
 rw[qco h1 (by omega)]
 rfl
theorem pow64 {k:Nat}(h:k≤63):2^k≤9223372036854775808:=by
 have:=qwu (show 0<2 by decide) h
 rwa [show (2:Nat)^63=9223372036854775808 from by decide] at this
theorem qhh {k:Nat}(h:k≤63):ishl .u64 1 (k:Int)=((2^k:Nat):Int):=by
 have:=qno (n:=1) (k:=k) (by omega)
 rw[show ((1:Nat):Int)=1 from rfl] at this
 have hp:=pow64 h
 rw[this,Nat.one_mul,qwj (by omega)]
theorem qi6 {a b:Nat}(h:b≤a)(h2:a<18446744073709551616):isub .u64 (a:Int) (b:Int)=((a-b:Nat):Int):=by
 unfold isub;rw[yR (by omega) (by omega)];omega
theorem qhU {a:Nat}(h:1≤a)(h2:a<18446744073709551616):isub .u64 (a:Int) 1=((a-1:Nat):Int):=by
 unfold isub;rw[yR (by omega) (by omega)];omega
theorem qn2 {a b:Nat}(h2:a+b<18446744073709551616):iadd .u64 (a:Int) (b:Int)=((a+b:Nat):Int):=by
 unfold iadd;rw[yR (by omega) (by omega)];omega
theorem qlu {a:Nat}(h2:a+1<18446744073709551616):iadd .u64 (a:Int) 1=((a+1:Nat):Int):=by
 unfold iadd;rw[yR (by omega) (by omega)];omega
theorem quV {F n k:Nat}(hn:n<18446744073709551616)(hk:k≤63):qea F (n:Int) (k:Int)=some ((n%2^k:Nat):Int):=by
 unfold qea
 have hp:=pow64 hk
 have hp0:0<2^k:=qw5 (by decide)
 have hc:decide ((0:Int)≤(k:Int))=true:=decide_eq_true (by omega)
 rw[hc]
 simp only[chk,if_true,lett]
 rw[qhh hk,qhU (by omega) (by omega)]
 have e:=qfr (k:=.u64) (a:=(n:Int)) (m:=k) (by omega) (by simp only[IntKind.bits];rw[show (2:Int)^64=18446744073709551616 from by decide];omega) (by simp only[IntKind.bits];omega) rfl
 rw[e]
 norm_cast
theorem qre {n k w:Nat}(h:w≤k):nb (n%2^k) w=nb n w:=by
 induction w with
 | zero=>rfl
 | succ w ih =>
  rw[nb,nb,ih (by omega)]
  congr 2
  have hp:2^k=2^w*2^(k-w):=by rw[← qx8];congr 1;omega
  rw[hp,Nat.mod_mul_right_div_self]
  have hp2:2^(k-w)=2*2^(k-w-1):=by rw[← qxT];congr 1;omega
  rw[hp2,Nat.mod_mul_right_mod]
def ga (n:Nat):qyo:=un (lg n)++nb (n+1) (lg n)
theorem qeL (n:Nat):Bit (ga n):=kp (qlv _) (qir _ _)
theorem qkX (n:Nat):(ga n).length=2*lg n+1:=by unfold ga;rw[qvN,qf9,qcq];omega
theorem qhy {F n:Nat}(hF:20000≤F)(hn:n+1<18446744073709551616):vQ F (n:Int)=some (((ga n).length:Int),pk (ga n)):=by
 unfold vQ
 have h63:=qvu hn
 rw[qtp hn]
 simp only[qvK]
 rw[yd (by omega),qrB hF (by omega)]
 simp only[qvK]
 rw[qlu hn,quV hn h63]
 simp only[qvK]
 have hlt:(n+1)%2^lg n<18446744073709551616:=by have:=Nat.mod_le (n+1) (2^lg n);omega
 rw[qf2 hlt (by omega) (qlv _) (by rw[qf9];omega) (by omega),qre (qv3 _)]
 rfl
def ones (l:qyo):Nat:=(l.map Int.toNat).sum
theorem qms (l k:qyo):ones (l++k)=ones l+ones k:=by simp[ones]
theorem qoJ {l:qyo}(h:Bit l):ones l≤l.length:=by
 induction l with
 | nil=>simp[ones]
 | cons x l ih =>
  have:=ih (fun y hy=>h y (qv7 _ hy))
  have h2:=h x qwf
  simp[ones] at this ⊢
  omega
def numOf (l:qyo)(k a:Nat):Int×Int×Int :=
 if 64≤k then (0,0,3) else if l.length<a+k then (0,0,7) else if 1099511627776<bv ((l.drop a).take k)+2^k-1 then (0,0,3) else (((bv ((l.drop a).take k)+2^k-1:Nat):Int),((a+k:Nat):Int),0)
def fg (l:qyo)(a:Nat):Int×Int×Int:=match fz (l.drop a) with | none=>(0,0,7) | some k=>numOf l k (a+k+1)
theorem qeR {F a w:Nat}{l:qyo}(hF:100≤F)(hl:Bit l)(hm:l.length≤8192)(ha:a≤l.length)(hw:w≤64) :
  vn F (l.length:Int) (pk l) (a:Int) (w:Int)=some (if a+w≤l.length then (((bv ((l.drop a).take w):Nat):Int),true) else (0,false)):=by
 have:=qtn hF (qdY hl) (qgG hm) ha hw
 rwa [qcn hl] at this
theorem qqL {l:qyo}{a:Nat}:(fg l a).2.2≠0∨∃ n q:Nat,fg l a=((n:Int),(q:Int),0)∧n≤1099511627776∧q≤l.length:=by
 unfold fg
 cases hf:fz (l.drop a) with
 | none=>left;simp
 | some k =>
  simp only
  unfold numOf
  by_cases h1:64≤k
  ·left;rw[if_pos h1];decide
  ·rw[if_neg h1]
   by_cases h2:l.length<a+k+1+k
   ·left;rw[if_pos h2];decide
   ·rw[if_neg h2]
    by_cases h3:1099511627776<bv ((l.drop (a+k+1)).take k)+2^k-1
    ·left;rw[if_pos h3];decide
    ·right;rw[if_neg h3];exact ⟨_,_,rfl,by omega,by omega⟩
theorem qnx {F k a:Nat}{l:qyo}(hF:20000≤F)(hl:Bit l)(hm:l.length≤8192)(ha:a≤l.length) :
  (if decide ((64:Int)≤(k:Int)) then some ((0:Int),(0:Int),(3:Int)) else ((vn F (l.length:Int) (pk l) (a:Int) (iconv .i64 (k:Int))).bind fun x10=>(if (!x10.2) then some (0,0,7) else (chk (decide ((0:Int)≤(k:Int))) ((lett (iadd .u64 x10.1 (isub .u64 (ishl .u64 1 (k:Int)) 1)) fun x16=>(if (decide (1099511627776<x16)) then some (0,0,3) else some (x16,iadd .i64 (a:Int) (iconv .i64 (k:Int)),0))))))))=some (numOf l k a):=by
 unfold numOf
 by_cases h1:64≤k
 ·rw[if_pos (by simp;omega),if_pos h1]
 ·rw[if_neg (by simp;omega),if_neg h1,qaQ (by omega),qeR (by omega) hl hm ha (by omega)]
  simp only[qvK]
  by_cases h2:a+k≤l.length
  ·rw[if_pos h2,if_neg (show ¬ l.length<a+k by omega)]
   have hc:decide ((0:Int)≤(k:Int))=true:=decide_eq_true (by omega)
   simp only[qwc,qv0,if_false,hc,chk,if_true,lett]
   have hb:=qod (qev (qfe hl a) k)
   rw[qwb,qws,qw7 (by omega)] at hb
   have hp:=pow64 (k:=k) (by omega)
   have hp0:0<2^k:=qw5 (by decide)
   rw[qhh (by omega),qhU (by omega) (by omega),qn2 (by omega),jr (by omega),show bv ((l.drop a).take k)+(2^k-1)=bv ((l.drop a).take k)+2^k-1 from by omega]
   by_cases h3:1099511627776<bv ((l.drop a).take k)+2^k-1
   ·rw[if_pos h3,if_pos (by simp only[decide_eq_true_eq];omega)]
   ·rw[if_neg h3,if_neg (by simp only[decide_eq_true_eq];omega)]
  ·rw[if_neg h2,if_pos (show l.length<a+k by omega)]
   rfl
theorem qgw {F a:Nat}{l:qyo}(hF:20000≤F)(hl:Bit l)(hm:l.length≤8192)(ha:a≤l.length):vr F (l.length:Int) (pk l) (a:Int)=some (fg l a):=by
 unfold vr zH qbe
 rw[qon hF hl hm ha]
 unfold fg
 cases hf:fz (l.drop a) with
 | none=>rfl
 | some k =>
  have hk:=quc hf
  rw[qws] at hk
  simp only[qvK,qwc,qv0,if_false,bne_self_eq_false]
  rw[qnx hF hl hm (by omega)]
  rfl
theorem qpG {F:Nat}{m a:Int}{b:qyo}(hb:U8s b)(hm:I64 m)(lb:b.length≤9223372036854775807):jM F m b a=some (raOf m b a):=by
 unfold jM raOf
 rw[qff hb hm.1 hm.2 lb]
 simp only[qvK]
 by_cases h1:chkOf m b=0
 ·rw[if_pos (by simpa using h1),if_neg (by simp[h1])]
  simp only[qa2,qa1]
  by_cases h:a<0∨m<a
  ·rw[if_pos h,if_pos (by simp;omega)]
  ·rw[if_neg h,if_neg (by simp;omega),h1]
 ·rw[if_neg (by simpa using h1),if_pos h1]
  rfl
def rd (f:qyo→Nat→Int×Int×Int)(m:Int)(b:qyo)(a:Int):Int×Int×Int:=if raOf m b a≠0 then (0,0,raOf m b a) else f (bl b m.toNat) a.toNat
theorem qrf {n:Nat}(hn:n≤1099511627776)(p r:qyo):numOf (p++nb (n+1) (lg n)++r) (lg n) p.length=((n:Int),((p.length+lg n:Nat):Int),0):=by
 have h40:=qex hn
 have h1:=quf (n:=n)
 have h2:=qug (n:=n)
 have hp0:0<2^lg n:=qw5 (by decide)
 have hbv:bv (((p++nb (n+1) (lg n)++r).drop p.length).take (lg n))=n+1-2^lg n:=by
  rw[qvM,qxP,qxx (qcq _ _),qh6]
  rw[qxr] at h2
  rw[Nat.mod_eq_sub_mod h1,qwj (by omega)]
 unfold numOf
 rw[hbv,if_neg (by omega),if_neg (by rw[qvN,qvN,qcq];omega),if_neg (by omega),show n+1-2^lg n+2^lg n-1=n from by omega]
theorem qvp {n:Nat}(hn:n≤1099511627776)(p r:qyo):fg (p++ga n++r) p.length=((n:Int),((p.length+(ga n).length:Nat):Int),0):=by
 unfold fg
 have h0:(p++ga n++r).drop p.length=un (lg n)++(nb (n+1) (lg n)++r):=by
  rw[qvM,qxP];unfold ga;rw[qvM]
 rw[h0,qud]
 simp only
 have:=qrf hn (p++un (lg n)) r
 rw[qvN,qf9] at this
 have e:p++ga n++r=p++un (lg n)++nb (n+1) (lg n)++r:=by unfold ga;simp[qvM]
 rw[e,show p.length+lg n+1=p.length+(lg n+1) from by omega,this,qkX,show p.length+(lg n+1)+lg n=p.length+(2*lg n+1) from by omega]
def sh (m:Nat):Nat:=len (m-1)
def dd (m:Nat):Nat:=2^sh m-m
theorem qum {m:Nat}(h:1≤m):m≤2^sh m:=by have:=qnu (x:=m-1);unfold sh;omega
theorem qpa {m:Nat}(h:m≤9223372036854775808):sh m≤63:=qeq.2 (by rw[show (2:Nat)^63=9223372036854775808 from by decide];omega)
theorem qvC {m:Nat}(h:2≤m):1≤sh m∧2^(sh m-1)<m:=by
 have h1:=qgA (x:=m-1) (by omega)
 have h2:=qnt (x:=m-1) (by omega)
 unfold sh;omega
theorem qvJ:sh 1=0:=rfl
theorem qg2 {m:Nat}(h:1≤m):m+dd m=2^sh m:=by have:=qum h;unfold dd;omega
theorem qjQ {m:Nat}(h:1≤m)(hd:0<dd m):1≤sh m∧dd m<2^(sh m-1):=by
 by_cases h2:2≤m
 ·obtain ⟨h3,h4⟩:=qvC h2
  have h5:=qg2 h
  have h6:2^sh m=2*2^(sh m-1):=by rw[← qxT];congr 1;omega
  omega
 ·obtain rfl:m=1:=by omega
  simp[dd,qvJ] at hd
theorem qfn {F m:Nat}(h:1≤m)(h2:m≤9223372036854775808):qaJ F (m:Int)=some ((sh m:Int),(dd m:Int)):=by
 unfold qaJ
 have h63:=qpa h2
 have hl:=qum h
 rw[qhU h (by omega),qio (by omega)]
 simp only[qvK]
 have hc:decide ((0:Int)≤((len (m-1):Nat):Int))=true:=decide_eq_true (by omega)
 rw[hc]
 simp only[chk,if_true]
 have hp:=pow64 h63
 have e:=qhh h63
 unfold sh at e hl hp
 rw[e,qi6 hl (by omega)]
 rfl
def le (n m:Nat):qyo:=if n<dd m then nb n (sh m-1) else nb (n+dd m) (sh m)
theorem quU (n m:Nat):Bit (le n m):=by unfold le;split <;> exact qir _ _
theorem qq9 (n m:Nat):(le n m).length=if n<dd m then sh m-1 else sh m:=by unfold le;split <;> exact qcq _ _
theorem qlT {F n m:Nat}{l:qyo}(hF:20000≤F)(hl:Bit l)(hlm:l.length≤8192)(hm:m≤9223372036854775808)(hn:n<m) :
  qah F (l.length:Int) (pk l) (n:Int) (m:Int)=some (((l++le n m).length:Int),pk (l++le n m)):=by
 unfold qah le
 have h63:=qpa hm
 have ha:=qg2 (m:=m) (by omega)
 have hp:=pow64 h63
 rw[qfn (by omega) hm]
 simp only[qvK]
 by_cases h:n<dd m
 ·obtain ⟨h1,h2⟩:=qjQ (m:=m) (by omega) (by omega)
  rw[if_pos (by simp;omega),if_pos h,qco h1 (by omega),qf2 (by omega) (by omega) hl hlm (by omega)]
  rfl
 ·rw[if_neg (by simp;omega),if_neg h,qn2 (by omega),qf2 (by omega) (by omega) hl hlm (by omega)]
  rfl
def flR (l:qyo)(a m:Nat):Option (Nat×Nat):=if a+sh m≤l.length then some (bv ((l.drop a).take (sh m))-dd m,a+sh m) else none
def flOf (l:qyo)(a m:Nat):Option (Nat×Nat) :=
 if 0<dd m then (if a+(sh m-1)≤l.length then (if bv ((l.drop a).take (sh m-1))<dd m then some (bv ((l.drop a).take (sh m-1)),a+(sh m-1)) else flR l a m) else none) else flR l a m
theorem qlt {l:qyo}(hl:Bit l){a s:Nat}(hs:1≤s)(h:a+s≤l.length):∃ x,x<2∧bv ((l.drop a).take s)=2*bv ((l.drop a).take (s-1))+x:=by
 obtain ⟨x,hx,hx2⟩:=qt8 (qfe hl a) (i:=s-1) (by simp;omega)
 refine ⟨x,hx2,?_⟩
 have:(l.drop a).take s=(l.drop a).take (s-1)++[(x:Int)]:=by
  have h1:s=(s-1)+1:=by omega
  conv=>lhs;rw[h1,qxA,hx]
  rfl
 rw[this,qqy]
 simp[bv]
 omega
theorem qub {l:qyo}(hl:Bit l){a m n q:Nat}(hm:1≤m)(h:flOf l a m=some (n,q)):n<m∧q≤l.length:=by
 have hR:flR l a m=some (n,q)→n<m∧q≤l.length:=by
  intro h
  unfold flR at h
  split at h
  ·rename_i h1
   simp only[qvY,qxa] at h
   have:=qod (qev (qfe hl a) (sh m))
   rw[qwb,qws,qw7 (by omega)] at this
   have:=qg2 hm
   omega
  ·simp at h
 unfold flOf at h
 split at h
 ·rename_i h0
  split at h
  ·split at h
   ·simp only[qvY,qxa] at h
    have h1:=qjQ hm h0
    have h2:=qg2 hm
    have h6:2^sh m=2*2^(sh m-1):=by rw[← qxT];congr 1;omega
    omega
   ·exact hR h
  ·simp at h
 ·exact hR h
theorem qkW {F a m:Nat}{l:qyo}(hF:20000≤F)(hl:Bit l)(hlm:l.length≤8192)(ha:a≤l.length)(hm1:1≤m)(hm:m≤9223372036854775808) :
  match flOf l a m with
  | none=>∃ x y,zn F (l.length:Int) (pk l) (a:Int) (m:Int)=some (x,y,false)
  | some p=>zn F (l.length:Int) (pk l) (a:Int) (m:Int)=some ((p.1:Int),(p.2:Int),true):=by
 have h63:=qpa hm
 have hadd:=qg2 hm1
 have hp:=pow64 h63
 have hj1:(0<dd m→¬ bv ((l.drop a).take (sh m-1))<dd m)→match flR l a m with
   | none=>∃ x y,zp F (l.length:Int) (pk l) (a:Int) ((sh m:Int),(dd m:Int))=some (x,y,false)
   | some p=>zp F (l.length:Int) (pk l) (a:Int) ((sh m:Int),(dd m:Int))=some ((p.1:Int),(p.2:Int),true):=by
  intro hge
  unfold flR zp
  simp only
  rw[qeR (by omega) hl hlm ha (by omega)]
  simp only[qvK]
  by_cases h:a+sh m≤l.length
  ·rw[if_pos h,if_pos h]
   simp only
   have hb:=qod (qev (qfe hl a) (sh m))
   rw[qwb,qws,qw7 (by omega)] at hb
   have hdb:dd m≤bv ((l.drop a).take (sh m)):=by
    by_cases h0:0<dd m
    ·obtain ⟨h1,_⟩:=qjQ hm1 h0
     obtain ⟨x,_,hx⟩:=qlt hl h1 h
     have:=hge h0
     omega
    ·omega
   rw[qi6 hdb (by omega),jr (by omega)]
  ·rw[if_neg h,if_neg h]
   exact ⟨_,_,rfl⟩
 by_cases h0:0<dd m
 ·obtain ⟨h1,h2⟩:=qjQ hm1 h0
  by_cases h3:a+(sh m-1)≤l.length
  ·by_cases h4:bv ((l.drop a).take (sh m-1))<dd m
   ·have e:flOf l a m=some (bv ((l.drop a).take (sh m-1)),a+(sh m-1)):=by unfold flOf;rw[if_pos h0,if_pos h3,if_pos h4]
    rw[e]
    unfold zn
    rw[qfn hm1 hm]
    simp only[qvK]
    rw[if_pos (by simp;omega),qco h1 (by omega),qeR (by omega) hl hlm ha (by omega),if_pos h3]
    simp only[qvK,qwc,qv0,if_false]
    rw[if_pos (by simp;omega),jr (by omega),qco (by omega) (by omega),show a+sh m-1=a+(sh m-1) from by omega]
   ·have e:flOf l a m=flR l a m:=by unfold flOf;rw[if_pos h0,if_pos h3,if_neg h4]
    have e2:zn F (l.length:Int) (pk l) (a:Int) (m:Int)=zp F (l.length:Int) (pk l) (a:Int) ((sh m:Int),(dd m:Int)):=by
     unfold zn
     rw[qfn hm1 hm]
     simp only[qvK]
     rw[if_pos (by simp;omega),qco h1 (by omega),qeR (by omega) hl hlm ha (by omega),if_pos h3]
     simp only[qvK,qwc,qv0,if_false]
     rw[if_neg (by simp;omega)]
    rw[e,e2]
    exact hj1 (fun _=>h4)
  ·have e:flOf l a m=none:=by unfold flOf;rw[if_pos h0,if_neg h3]
   rw[e]
   unfold zn
   rw[qfn hm1 hm]
   simp only[qvK]
   rw[if_pos (by simp;omega),qco h1 (by omega),qeR (by omega) hl hlm ha (by omega),if_neg h3]
   exact ⟨_,_,rfl⟩
 ·have e:flOf l a m=flR l a m:=by unfold flOf;rw[if_neg h0]
  have e2:zn F (l.length:Int) (pk l) (a:Int) (m:Int)=zp F (l.length:Int) (pk l) (a:Int) ((sh m:Int),(dd m:Int)):=by
   unfold zn
   rw[qfn hm1 hm]
   simp only[qvK]
   rw[if_neg (by simp;omega)]
  rw[e,e2]
  exact hj1 (fun h=>absurd h h0)
theorem qvq {n m:Nat}(hn:n<m)(p r:qyo):flOf (p++le n m++r) p.length m=some (n,p.length+(le n m).length):=by
 have hd:(p++le n m++r).drop p.length=le n m++r:=by rw[qvM,qxP]
 have hll:=qq9 n m
 have hadd:=qg2 (m:=m) (by omega)
 have hL:(p++le n m++r).length=p.length+(le n m).length+r.length:=by simp;omega
 unfold flOf flR
 rw[hd,hL,hll]
 by_cases h:n<dd m
 ·obtain ⟨h1,h2⟩:=qjQ (m:=m) (by omega) (by omega)
  have e:bv ((le n m++r).take (sh m-1))=n:=by
   unfold le
   rw[if_pos h,qxx (qcq _ _),qh6,qwj (by omega)]
  rw[if_pos h,if_pos (by omega),if_pos (by omega),e,if_pos h]
 ·have e:bv ((le n m++r).take (sh m))=n+dd m:=by
   unfold le
   rw[if_neg h,qxx (qcq _ _),qh6,qwj (by omega)]
  rw[if_neg h]
  by_cases h0:0<dd m
  ·obtain ⟨h1,h2⟩:=qjQ (m:=m) (by omega) h0
   have e2:bv ((le n m++r).take (sh m-1))=(n+dd m)/2:=by
    unfold le
    rw[if_neg h]
    have hs:nb (n+dd m) (sh m)=nb ((n+dd m)/2) (sh m-1)++[((((n+dd m)%2:Nat)):Int)]:=by
     have:=qta (n+dd m) (sh m-1)
     rwa [show sh m-1+1=sh m from by omega] at this
    have h6:2^sh m=2*2^(sh m-1):=by rw[← qxT];congr 1;omega
    rw[hs,qvM,qxx (qcq _ _),qh6,qwj (by omega)]
   rw[if_pos h0,if_pos (by omega),e2,if_neg (by omega),if_pos (by omega),e,qwC]
  ·rw[if_neg h0,if_pos (by omega),e,qwC]
def ok3 (l:qyo):Int×qyo×Int:=((l.length:Int),pk l,0)
theorem qsJ:Bit []:=by intro x hx;simp at hx
theorem qvi {a b:Nat}(h:a*b<18446744073709551616):imul .u64 (a:Int) (b:Int)=((a*b:Nat):Int):=by
 unfold imul
 rw[← qw2]
 generalize a*b=q at h
 exact yR (by omega) (by omega)
def en (p:Option (Nat×Nat)):Int×Int×Int:=match p with
 | none=>(0,0,7)
 | some p=>if 1099511627776<p.1 then (0,0,3) else ((p.1:Int),(p.2:Int),0)
theorem qpH {F n q:Nat}:qb6 F (n:Int) (q:Int) true=some (en (some (n,q))):=by
 unfold qb6 en
 rw[if_neg (by simp)]
 by_cases h:1099511627776<n
 ·simp only;rw[if_pos (by simp;omega),if_pos h]
 ·simp only;rw[if_neg (by simp;omega),if_neg h]
def zh (n k:Nat):Nat:=lg n/k
def zf (n k:Nat):Nat:=2^(zh n k*k)
def zt (n k:Nat):Nat:=2^(zh n k*k+k)
def ze (n k:Nat):qyo:=un (zh n k)++le (n+1-zf n k) (zt n k-zf n k)
theorem qn8 (n k:Nat):Bit (ze n k):=kp (qlv _) (quU _ _)
theorem quv (n k:Nat):zf n k≤n+1:=by
 have h:zh n k*k≤lg n:=qxG _ _
 exact qwS (qwu (by decide) h) quf
theorem qux {n k:Nat}(hk:1≤k):n+1<zt n k:=by
 have h:lg n+1≤zh n k*k+k:=by
  have:=Nat.lt_mul_div_succ (lg n) hk
  unfold zh
  rw[Nat.mul_add,Nat.mul_one,qxg] at this
  omega
 exact qxL qug (qwu (by decide) h)
theorem qpw {n k:Nat}(hn:n≤1099511627776)(hk2:k≤16):zh n k*k≤40∧zt n k≤72057594037927936:=by
 have h:zh n k*k≤lg n:=qxG _ _
 have h40:=qex hn
 refine ⟨by omega,?_⟩
 have:zt n k≤2^56:=qwu (by decide) (by omega)
 rwa [show (2:Nat)^56=72057594037927936 from by decide] at this
def Zk (k:Int):Prop:=1≤k∧k≤16
instance zkDec (k:Int):Decidable (Zk k):=inferInstanceAs (Decidable (_∧_))
theorem qsF {k:Int}(h:Zk k):∃ j:Nat,k=j∧1≤j∧j≤16:=by
 obtain ⟨j,rfl⟩:=qvS (show 0≤k by have:=h.1;omega)
 exact ⟨j,rfl,by have:=h.1;omega,by have:=h.2;omega⟩
theorem qtz {F n k:Nat}(hn:n≤1099511627776)(hk:1≤k)(hk2:k≤16):qdc F (n:Int) (k:Int)=some ((zh n k:Int),(zf n k:Int),(zt n k:Int)):=by
 unfold qdc
 obtain ⟨h40,h56⟩:=qpw hn hk2
 have hlen:len (n+1)=lg n+1:=by have:=qgA (x:=n+1) (by omega);unfold lg;omega
 have hl40:=qex hn
 have hzl:zh n k≤lg n:=qwW _ _
 have hc0:((k:Int) != 0)=true:=by rw[bne_iff_ne];omega
 rw[qlu (by omega),qio (by omega),hlen]
 simp only[qvK]
 rw[qco (by omega) (by omega),qwC]
 have e1:iquo .i64 (lg n:Int) (k:Int)=((zh n k:Nat):Int):=by
  unfold iquo zh
  rw[qxk (by omega),← Int.natCast_ediv]
  unfold zh at hzl
  generalize lg n/k=q at hzl
  exact kE (by omega) (by omega)
 have e2:imul .i64 ((zh n k:Nat):Int) (k:Int)=((zh n k*k:Nat):Int):=by
  unfold imul
  rw[← qw2]
  generalize zh n k*k=q at h40
  exact kE (by omega) (by omega)
 rw[e1,e2,jr (by omega),hc0]
 have c1:decide ((0:Int)≤((zh n k*k:Nat):Int))=true:=decide_eq_true (qya _)
 have c2:decide ((0:Int)≤((zh n k*k+k:Nat):Int))=true:=decide_eq_true (qya _)
 rw[c1,c2]
 simp only[chk,if_true]
 rw[qhh (by omega),qhh (by omega)]
 rfl
def gz (n k:Int):Int×qyo×Int:=if Zk k∧n≤1099511627776 then ok3 (ze n.toNat k.toNat) else (0,[],3)
theorem quR {n k:Int}(h:¬ (Zk k∧n≤1099511627776)):gz n k=(0,[],3):=by unfold gz;rw[if_neg h]
theorem qoz {n k:Nat}(h:Zk k)(h2:n≤1099511627776):gz n k=ok3 (ze n k):=by unfold gz;rw[if_pos ⟨h,by omega⟩,qvP,qvP]
theorem qt5 {F:Nat}(hF:20000≤F){n k:Int}(hn:U64 n):qdb F n k=some (gz n k):=by
 unfold qdb
 by_cases h:Zk k∧n≤1099511627776
 ·obtain ⟨n,rfl⟩:=qvS hn.1
  obtain ⟨k,rfl,h1,h2⟩:=qsF h.1
  have hn2:n≤1099511627776:=by have:=h.2;omega
  have hl40:=qex hn2
  have hzl:zh n k≤lg n:=qwW _ _
  have a1:=quv n k
  have a2:=qux (n:=n) h1
  have a3:=(qpw hn2 h2).2
  rw[if_neg (by simp;omega),qtz hn2 h1 h2,qoz h.1 hn2]
  simp only[qvK]
  rw[yd (by omega),qrB hF (by omega),qlu (by omega),qi6 a1 (by omega),qi6 (by omega) (by omega)]
  simp only[qvK]
  rw[qlT hF (qlv _) (by rw[qf9];omega) (by omega) (by omega)]
  rfl
 ·rw[if_pos (by unfold Zk at h;simp;omega),quR h]
def zq (k:Nat)(l:qyo)(i:Nat):Int×Int×Int:=match fz (l.drop i) with
 | none=>(0,0,7)
 | some h=>if 41≤h*k then (0,0,3) else en ((flOf l (i+h+1) (2^(h*k+k)-2^(h*k))).map fun p=>(2^(h*k)+p.1-1,p.2))
theorem qoQ {a k:Nat}(hk:1≤k):2*2^a≤2^(a+k):=by
 rw[← qxT];exact qwu (by decide) (by omega)
theorem qru {a:Nat}(h:a≤56):2^a≤72057594037927936:=by
 have:2^a≤2^56:=qwu (by decide) h
 rwa [show (2:Nat)^56=72057594037927936 from by decide] at this
theorem qmb {F i k:Nat}{l:qyo}(hF:20000≤F)(hl:Bit l)(hlm:l.length≤8192)(hi:i≤l.length)(h1:1≤k)(h2:k≤16):qag F (l.length:Int) (pk l) (i:Int) (k:Int)=some (zq k l i):=by
 unfold qag
 rw[qon hF hl hlm hi]
 unfold zq
 cases hz:fz (l.drop i) with
 | none=>rfl
 | some h =>
  have hq:=quc hz
  rw[qws] at hq
  have hmul:h*k≤8192*16:=Nat.mul_le_mul (by omega) h2
  simp only[qvK,qwc,qv0,if_false]
  rw[yd (by omega),qvi (by omega),qaQ (by omega)]
  by_cases h3:41≤h*k
  ·rw[if_pos (by simp only[decide_eq_true_eq];omega),if_pos h3]
  ·rw[if_neg (by simp only[decide_eq_true_eq];omega),if_neg h3]
   have e2:imul .i64 (h:Int) (k:Int)=((h*k:Nat):Int):=by
    unfold imul
    rw[← qw2]
    generalize h*k=q at hmul
    exact kE (by omega) (by omega)
   have c1:decide ((0:Int)≤((h*k:Nat):Int))=true:=decide_eq_true (qya _)
   have c2:decide ((0:Int)≤(k:Int))=true:=decide_eq_true (by omega)
   rw[e2,c1,c2]
   simp only[chk,if_true,lett]
   have p1:=qru (a:=h*k) (by omega)
   have p2:=qru (a:=h*k+k) (by omega)
   have p3:=qoQ (a:=h*k) h1
   have p0:0<2^(h*k):=qw5 (by decide)
   rw[qhh (by omega),qno (by omega),← qx8,qwj (by omega),qi6 (by omega) (by omega)]
   have:=qkW (a:=i+h+1) (m:=2^(h*k+k)-2^(h*k)) hF hl hlm (by omega) (by omega) (by omega)
   cases hf:flOf l (i+h+1) (2^(h*k+k)-2^(h*k)) with
   | none =>
    rw[hf] at this
    obtain ⟨x,y,e⟩:=this
    rw[e];rfl
   | some p =>
    rw[hf] at this
    simp only at this
    have hp:=qub hl (n:=p.1) (q:=p.2) (by omega) hf
    rw[this]
    simp only[qvK]
    rw[qn2 (by omega),qhU (by omega) (by omega),qpH]
    rfl
theorem que {n:Nat}(hn:n≤1099511627776):(ga n).length≤81:=by rw[qkX];have:=qex hn;omega
theorem qra {n m:Nat}(hm:m≤9223372036854775808):(le n m).length≤63:=by
 have:=qq9 n m;have:=qpa hm;split at*<;> omega
theorem qvo {n k:Nat}(hn:n≤1099511627776)(hk2:k≤16):(ze n k).length≤200:=by
 have hzl:zh n k≤lg n:=qwW _ _
 have hl40:=qex (n:=n) (by omega)
 have a3:=(qpw (n:=n) (by omega) hk2).2
 have hle:=qra (n:=n+1-zf n k) (m:=zt n k-zf n k) (by omega)
 unfold ze;rw[qvN,qf9];omega
def foldOf (x:Int):Int:=if x<0 then 2*(-(x+1))+1 else 2*x
theorem qlz {x:Int}(h1:-9223372036854775808≤x)(h2:x<0):IntKind.wrap .u64 x=x+18446744073709551616:=by
 rw[qgS];omega
theorem qsC (n:Nat)(h:n<18446744073709551616):ixor .u64 (n:Int) 18446744073709551615=18446744073709551615-(n:Int):=by
 unfold ixor
 have h1:(qwi (IntKind.bits .u64) (n:Int))=qwd 64 n:=by simp[IntKind.bits]
 have h2:(qwi (IntKind.bits .u64) (18446744073709551615:Int))=qxd 64:=by show qwi 64 _=_;decide
 rw[h1,h2]
 have h3:(qwd 64 n ^^^ qxd 64) = ~~~ (qwd 64 n):=BitVec.xor_allOnes
 have h4:(qwd 64 n ^^^ qxd 64).toNat=18446744073709551615-n:=by
  rw[h3,BitVec.toNat_not,qwB]
  omega
 show IntKind.wrap .u64 ((qwd 64 n ^^^ qxd 64).toNat:Int)=_
 rw[h4,yR (by omega) (by omega)]
 omega
theorem qn7 (n:Nat)(h:n<18446744073709551616):ixor .u64 (n:Int) 0=(n:Int):=by
 unfold ixor
 have h1:(qwi (IntKind.bits .u64) (n:Int))=qwd 64 n:=by simp[IntKind.bits]
 have h2:(qwi (IntKind.bits .u64) (0:Int))=0#64:=by show qwi 64 _=_;decide
 rw[h1,h2]
 show IntKind.wrap .u64 ((qwd 64 n ^^^ 0#64).toNat:Int)=_
 rw[BitVec.xor_zero,qwB,qwj (by omega),yR (by omega) (by omega)]
theorem qn5 (n:Nat)(h:n<9223372036854775808):ixor .i64 (n:Int) (-1)=-(n:Int)-1:=by
 unfold ixor
 have h1:(qwi (IntKind.bits .i64) (n:Int))=qwd 64 n:=by simp[IntKind.bits]
 have h2:(qwi (IntKind.bits .i64) (-1:Int))=qxd 64:=by show qwi 64 _=_;decide
 rw[h1,h2]
 have h3:(qwd 64 n ^^^ qxd 64) = ~~~ (qwd 64 n):=BitVec.xor_allOnes
 have h4:(qwd 64 n ^^^ qxd 64).toNat=18446744073709551615-n:=by
  rw[h3,BitVec.toNat_not,qwB]
  omega
 show IntKind.wrap .i64 ((qwd 64 n ^^^ qxd 64).toNat:Int)=_
 rw[h4]
 unfold IntKind.wrap
 simp only[IntKind.bits,IntKind.signed,show (2^64:Int)=18446744073709551616 from by decide,show (2^(64-1):Int)=9223372036854775808 from by decide]
 rw[if_pos (by simp;omega)]
 omega
theorem qn6 (n:Nat)(h:n<9223372036854775808):ixor .i64 (n:Int) 0=(n:Int):=by
 unfold ixor
 have h1:(qwi (IntKind.bits .i64) (n:Int))=qwd 64 n:=by simp[IntKind.bits]
 have h2:(qwi (IntKind.bits .i64) (0:Int))=0#64:=by show qwi 64 _=_;decide
 rw[h1,h2]
 show IntKind.wrap .i64 ((qwd 64 n ^^^ 0#64).toNat:Int)=_
 rw[BitVec.xor_zero,qwB,qwj (by omega),kE (by omega) (by omega)]
theorem qol (F:Nat){x:Int}(h1:-9223372036854775808≤x)(h2:x<9223372036854775808):qbl F x=some (foldOf x):=by
 unfold qbl lett foldOf
 have hs:ishr .i64 x 63=x/9223372036854775808:=by
  have:=qfs (k:=.i64) (a:=x) (m:=63) (by decide)
  rw[show ((63:Nat):Int)=63 from rfl,show (2:Int)^63=9223372036854775808 from by decide] at this
  exact this
 have hl:∀ y:Int,ishl .u64 y 1=(y*2)%18446744073709551616:=fun y=>qik (a:=y) (m:=1) (by decide)
 rw[hs,hl]
 by_cases hx:x<0
 ·rw[if_pos hx,show x/9223372036854775808=-1 from by omega]
  have e1:iconv .u64 x=x+18446744073709551616:=qlz h1 hx
  have e2:iconv .u64 (-1)=18446744073709551615:=by decide
  rw[e1,e2,show (x+18446744073709551616)*2%18446744073709551616=(((2*x+18446744073709551616).toNat:Nat):Int) from by omega,qsC _ (by omega)]
  congr 1
  omega
 ·rw[if_neg hx,show x/9223372036854775808=0 from by omega]
  have e1:iconv .u64 x=x:=yR (by omega) (by omega)
  have e2:iconv .u64 0=0:=by decide
  rw[e1,e2,show x*2%18446744073709551616=((2*x).toNat:Int) from by omega,qn7 _ (by omega)]
  congr 1
  omega
def zR (n:Int):Int:=if n%2=0 then n/2 else -(n/2)-1
theorem qki (F:Nat){n:Int}(h1:0≤n)(h2:n<18446744073709551616):jI F n=some (zR n):=by
 unfold jI lett zR
 have hs:ishr .u64 n 1=n/2:=by
  have:=qfs (k:=.u64) (a:=n) (m:=1) (by decide)
  simpa using this
 have ha:iand .u64 n 1=n%2:=by
  have:=qfr (k:=.u64) (a:=n) (m:=1) h1 (by simpa[IntKind.bits] using h2) (by decide) rfl
  simpa using this
 have e1:iconv .i64 (n/2)=n/2:=kE (by omega) (by omega)
 have e2:iconv .i64 (n%2)=n%2:=kE (by omega) (by omega)
 rw[hs,ha,e1,e2]
 by_cases h:n%2=0
 ·rw[if_pos h,h,show isub .i64 0 0=0 from by decide,show n/2=((n/2).toNat:Int) from by omega,qn6 _ (by omega)]
 ·rw[if_neg h,show n%2=1 from by omega,show isub .i64 0 1=-1 from by decide,show n/2=((n/2).toNat:Int) from by omega,qn5 _ (by omega)]
theorem qhE (x:Int):zR (foldOf x)=x:=by
 unfold zR foldOf
 split <;> split <;> omega
theorem qgF {F:Nat}{x:Int}:jc F x=some (decide (0≤x∧x≤1048576)):=by
 unfold jc
 congr 1
 by_cases h:0≤x <;> by_cases h2:x≤1048576 <;> simp[h,h2]
def gk:Int→qyo→Int
 | _,[]=>0
 | last,n::l=>if 0≤n∧n≤1048576 then (if n≤last then 4 else gk n l) else 3
def gkc (l:qyo):Int:=if 300<l.length then 2 else gk (-1) l
theorem qmd {F:Nat}{l:qyo}(hm:l.length≤300):∀ (k i:Nat) (last:Int),l.length<k+i→i≤l.length →
  va F l k (last,(i:Int))=some (gk last (l.drop i))
 | 0,_,_,_,_=>by omega
 | k+1,i,last,h,hi=>by
  show qbv F l (va F l k) last (i:Int)=_
  unfold qbv
  by_cases hlt:i<l.length
  ·rw[if_pos (by simp;omega),qG,qvL hlt,qvV hlt,gk]
   simp only[qvK]
   rw[qgF]
   simp only[qvK]
   by_cases h1:0≤l[i]∧l[i]≤1048576
   ·rw[decide_eq_true h1,if_pos h1,if_neg (by simp)]
    by_cases h2:l[i]≤last
    ·rw[if_pos h2,if_pos (by simpa using h2)]
    ·rw[if_neg h2,if_neg (by simpa using h2),qC (by omega)]
     exact qmd hm k (i+1) _ (by omega) (by omega)
   ·rw[decide_eq_false h1,if_neg h1,if_pos (by simp)]
  ·rw[if_neg (by simp;omega),qv1 (by omega)]
   rfl
theorem jT {F:Nat}(hF:20000≤F){l:qyo}:zV F l=some (gkc l):=by
 unfold zV gkc
 by_cases h:300<l.length
 ·rw[if_pos (by simp;omega),if_pos h]
 ·rw[if_neg (by simp;omega),if_neg h]
  exact qmd (by omega) F 0 (-1) (by omega) (by omega)
def Ris:Int→qyo→Prop
 | _,[]=>True
 | last,n::l=>(0≤n∧n≤1048576)∧last<n∧Ris n l
theorem qqZ:∀ {last:Int} {l:qyo},gk last l=0↔Ris last l
 | _,[]=>by simp[gk,Ris]
 | last,n::l=>by
  unfold gk Ris
  by_cases h1:0≤n∧n≤1048576
  ·rw[if_pos h1]
   by_cases h2:n≤last
   ·rw[if_pos h2];simp;omega
   ·rw[if_neg h2,qqZ];simp[h1];omega
  ·rw[if_neg h1];simp;omega
theorem zD {l:qyo}:gkc l=0↔(l.length≤300∧Ris (-1) l):=by
 unfold gkc
 by_cases h:300<l.length
 ·rw[if_pos h];simp;omega
 ·rw[if_neg h,qqZ];simp;omega
def Nd (x:Int):Prop:=0≤x∧x≤1048576
instance ndDec (x:Int):Decidable (Nd x):=inferInstanceAs (Decidable (_∧_))
def gp:Bool→Int→qyo→qyo
 | _,_,[]=>[]
 | b,a,n::l=>(if b then n-a-1 else foldOf (n-a))::gp true n l
theorem qkZ:∀ (b:Bool) (a:Int) (l:qyo),(gp b a l).length=l.length
 | _,_,[]=>rfl
 | b,a,n::l=>by rw[gp,qwa,qwa,qkZ]
theorem quM {F:Nat}{a n:Int}{b:Bool}(ha:Nd a)(hn:Nd n)(hb:b=true→a<n):qaf F a b n=some (if b then n-a-1 else foldOf (n-a),n,true):=by
 unfold qaf
 have h1:=ha.1;have h2:=ha.2;have h3:=hn.1;have h4:=hn.2
 cases b with
 | true =>
  have:=hb rfl
  rw[if_pos rfl,if_pos rfl,zB (a:=n) (b:=a) (by omega) (by omega),zB (a:=n-a) (by omega) (by omega)]
  have e:iconv .u64 (n-a-1)=n-a-1:=yR (by omega) (by omega)
  rw[e];rfl
 | false =>
  rw[if_neg (by simp),if_neg (by simp),zB (by omega) (by omega),qol F (by omega) (by omega)]
  rfl
theorem qq0 {F:Nat}{l:qyo}(hm:l.length≤300):∀ (k i:Nat) (a:Int) (b:Bool) (o:qyo),l.length<k+i→i≤l.length→Nd a→(b=true→Ris a (l.drop i))→(b=false→∃ q,Ris q (l.drop i))→o.length+(l.length-i)≤1000 →
  jP F l k (o,(i:Int),a,b)=some (o++gp b a (l.drop i))
 | 0,_,_,_,_,_,_,_,_,_,_=>by omega
 | k+1,i,a,b,o,h,hi,ha,hb,hb2,ho=>by
  show qda F l (jP F l k) o (i:Int) a b=_
  unfold qda
  by_cases hlt:i<l.length
  ·rw[qvV hlt] at hb hb2 ⊢
   have hx:Nd l[i]∧Ris l[i] (l.drop (i+1)):=by
    cases b with
    | true=>have:=hb rfl;exact ⟨this.1,this.2.2⟩
    | false=>obtain ⟨q,hq⟩:=hb2 rfl;exact ⟨hq.1,hq.2.2⟩
   rw[if_pos (by simp;omega),qG,qvL hlt]
   simp only[qvK]
   rw[quM ha hx.1 (fun h=>(hb h).2.1)]
   simp only[qvK]
   rw[yb (by simp;omega),qC (by omega)]
   simp only[qvK]
   rw[qq0 hm k (i+1) _ _ _ (by omega) (by omega) hx.1 (fun _=>hx.2) (fun h=>by cases h) (by simp;omega)]
   rw[gp]
   simp
  ·rw[if_neg (by simp;omega),qv1 (by omega)]
   simp[qen,gp]
theorem qox {F:Nat}(hF:20000≤F){l:qyo}{a q:Int}(hm:l.length≤300)(ha:Nd a)(hr:Ris q l):qcH F l a=some (gp false a l):=by
 unfold qcH
 have:=qq0 (F:=F) hm F 0 a false [] (by omega) (by omega) ha (fun h=>by cases h) (fun _=>⟨q,by rw[qv5];exact hr⟩) (by simp;omega)
 rw[qv5,qv8] at this
 exact this
def ggOf (l:qyo)(a:Int):Int:=if gkc l≠0 then gkc l else if Nd a then 0 else 3
def gg (l:qyo)(a:Int):qyo×Int:=if ggOf l a≠0 then ([],ggOf l a) else (gp false a l,0)
theorem qkY {l:qyo}{a:Int}:ggOf l a=0↔(l.length≤300∧Ris (-1) l∧Nd a):=by
 unfold ggOf
 by_cases h:gkc l=0
 ·have:=zD.1 h
  rw[if_neg (by simp[h])]
  by_cases h2:Nd a <;> simp[h2,this.1,this.2]
 ·rw[if_pos h]
  constructor
  ·intro h2;exact absurd h2 h
  ·intro h2;exact absurd (zD.2 ⟨h2.1,h2.2.1⟩) h
theorem qnl {l:qyo}{a:Int}(h:ggOf l a≠0):gg l a=([],ggOf l a):=by unfold gg;rw[if_pos h]
theorem qou {l:qyo}{a:Int}(h:ggOf l a=0):gg l a=(gp false a l,0):=by unfold gg;rw[if_neg (by simp[h])]
theorem qoq {F:Nat}(hF:20000≤F){l:qyo}{a:Int}:qaE F l a=some (gg l a):=by
 unfold qaE
 rw[jT hF]
 simp only[qvK]
 by_cases h:gkc l=0
 ·rw[if_pos (by simpa using h),qgF]
  simp only[qvK,qaG]
  by_cases h2:Nd a
  ·have h3:=qkY.2 ⟨(zD.1 h).1,(zD.1 h).2,h2⟩
   have hd:decide (0≤a∧a≤1048576)=true:=decide_eq_true h2
   rw[hd,qou h3,if_neg (by simp),h]
   unfold qaF
   rw[if_neg (by simp),qox hF (zD.1 h).1 h2 (zD.1 h).2]
   rfl
  ·have h3:ggOf l a=3:=by unfold ggOf;rw[if_neg (by simp[h]),if_neg h2]
   have hd:decide (0≤a∧a≤1048576)=false:=decide_eq_false h2
   rw[hd,qnl (by rw[h3];decide),h3]
   rfl
 ·have h3:ggOf l a=gkc l:=by unfold ggOf;rw[if_pos h]
  rw[if_neg (by simpa using h),qnl (by rw[h3];exact h),h3]
  unfold qaG qaF
  rw[if_neg (by simp),if_pos (by simpa using h)]
def st (b:Bool)(a g:Int):Option Int:=if 2097152<g then none else if Nd (if b then a+g+1 else a+zR g) then some (if b then a+g+1 else a+zR g) else none
theorem qus {b:Bool}{a g n:Int}(h:st b a g=some n):Nd n∧g≤2097152∧n=(if b then a+g+1 else a+zR g):=by
 unfold st at h
 by_cases h1:2097152<g
 ·rw[if_pos h1] at h;simp at h
 ·rw[if_neg h1] at h
  by_cases h2:Nd (if b then a+g+1 else a+zR g)
  ·rw[if_pos h2] at h
   have:=qxK h
   exact ⟨this▸h2,by omega,this.symm⟩
  ·rw[if_neg h2] at h;simp at h
theorem qpg {F:Nat}{a g:Int}{b:Bool}(ha:Nd a)(hg:U64 g):match st b a g with
  | none=>∃ x y,zP F a b g=some (false,x,y)
  | some n=>zP F a b g=some (true,n,true):=by
 have h1:=ha.1;have h2:=ha.2;have h3:=hg.1;have h4:=hg.2
 by_cases h:2097152<g
 ·have e:st b a g=none:=by unfold st;rw[if_pos h]
  rw[e]
  unfold zP
  rw[if_pos (by simpa using h)]
  exact ⟨_,_,rfl⟩
 ·have hu:-1048577≤zR g∧zR g≤1048577:=by unfold zR;split <;> omega
  have hM:zP F a b g=some (decide (Nd (if b then a+g+1 else a+zR g)),(if b then a+g+1 else a+zR g),true):=by
   unfold zP
   rw[if_neg (by simpa using h)]
   cases b with
   | true =>
    have e:iconv .i64 g=g:=kE (by omega) (by omega)
    rw[if_pos rfl,e,qD (a:=g) (by omega) (by omega),qD (by omega) (by omega)]
    unfold kN
    rw[qgF,show a+(g+1)=a+g+1 from by omega]
    rfl
   | false =>
    rw[if_neg (by simp),qki F h3 h4]
    simp only[qvK]
    rw[qD (by omega) (by omega)]
    unfold kN
    rw[qgF]
    rfl
  rw[hM]
  unfold st
  rw[if_neg h]
  by_cases h5:Nd (if b then a+g+1 else a+zR g)
  ·rw[if_pos h5]
   simp only
   rw[decide_eq_true h5]
  ·rw[if_neg h5,decide_eq_false h5]
   exact ⟨_,_,rfl⟩
def bk:Bool→Int→qyo→Option (qyo)
 | _,_,[]=>some []
 | b,a,g::l=>(st b a g).bind fun n=>(bk true n l).map (n::·)
theorem qqp {F:Nat}{l:qyo}(hn:N64 l)(hm:l.length≤300):∀ (k i:Nat) (a:Int) (b:Bool) (o:qyo),l.length<k+i→i≤l.length→Nd a→o.length+(l.length-i)≤1000 →
  vS F l k (o,(i:Int),a,b)=some (match bk b a (l.drop i) with | none=>([],3) | some r=>(o++r,0))
 | 0,_,_,_,_,_,_,_,_=>by omega
 | k+1,i,a,b,o,h,hi,ha,ho=>by
  show qb3 F l (vS F l k) o (i:Int) a b=_
  unfold qb3
  by_cases hlt:i<l.length
  ·have hg:=hn _ (qwe hlt)
   rw[if_pos (by simp;omega),qG,qvL hlt,qvV hlt,bk]
   simp only[qvK]
   have hs:=qpg (F:=F) (b:=b) ha (g:=l[i]) hg
   cases hst:st b a l[i] with
   | none =>
    rw[hst] at hs
    obtain ⟨x,y,e⟩:=hs
    rw[e];rfl
   | some n =>
    rw[hst] at hs
    simp only at hs
    rw[hs]
    simp only[qvK,qwc,qv0,if_false]
    rw[yb (by simp;omega),qC (by omega)]
    simp only[qvK]
    rw[qqp hn hm k (i+1) _ _ _ (by omega) (by omega) (qus hst).1 (by simp;omega)]
    cases bk true n (l.drop (i+1)) with
    | none=>rfl
    | some r=>simp
  ·rw[if_neg (by simp;omega),qv1 (by omega)]
   simp[qdM,bk]
def gb (g:qyo)(a:Int):qyo×Int:=if 300<g.length then ([],2) else if Nd a then (match bk false a g with | none=>([],3) | some r=>(r,0)) else ([],3)
theorem qqS {F:Nat}(hF:20000≤F){g:qyo}{a:Int}(hn:N64 g):qbM F g a=some (gb g a):=by
 unfold qbM gb
 by_cases h:300<g.length
 ·rw[if_pos (by simp;omega),if_pos h]
 ·rw[if_neg (by simp;omega),if_neg h,qgF]
  simp only[qvK]
  by_cases h2:Nd a
  ·have:decide (0≤a∧a≤1048576)=true:=decide_eq_true h2
   rw[this,if_neg (by simp),if_pos h2]
   have:=qqp (F:=F) hn (by omega) F 0 a false [] (by omega) (by omega) h2 (by simp;omega)
   rw[qv5] at this
   exact this
  ·have:decide (0≤a∧a≤1048576)=false:=decide_eq_false h2
   rw[this,if_pos (by simp),if_neg h2]
def zes (k:Nat)(g:qyo):qyo:=g.flatMap fun x=>ze x.toNat k
theorem qgU (k:Nat)(x:Int)(g:qyo):zes k (x::g)=ze x.toNat k++zes k g:=rfl
theorem qpu (k:Nat)(g:qyo):Bit (zes k g):=by
 induction g with
 | nil=>intro x hx;simp[zes] at hx
 | cons x g ih=>rw[qgU];exact kp (qn8 _ _) ih
def L40 (g:qyo):Prop:=∀ x∈g,0≤x∧x≤1099511627776
theorem qui {F k:Nat}(hF:20000≤F)(h1:1≤k)(h2:k≤16){g:qyo}(hg:L40 g)(hgm:g.length≤10000):∀ (j i:Nat) (l:qyo),g.length<j+i→i≤g.length→Bit l→l.length≤8192 →
  jO F g (k:Int) j ((i:Int),(l.length:Int),pk l)=some (if (l++zes k (g.drop i)).length≤8192 then (((l++zes k (g.drop i)).length:Int),pk (l++zes k (g.drop i)),true) else (0,[],false))
 | 0,_,_,_,_,_,_=>by omega
 | j+1,i,l,h,hi,hl,hlm=>by
  show qc9 F g (k:Int) (jO F g (k:Int) j) (i:Int) (l.length:Int) (pk l)=_
  unfold qc9
  by_cases hlt:i<g.length
  ·have hx:=hg _ (qwe hlt)
   obtain ⟨x,hxe⟩:=qvS hx.1
   rw[if_pos (by simp;omega),qG,qvL hlt,qvV hlt,qgU,hxe,qvP]
   simp only[qvK]
   have hk:Zk (k:Int):=⟨by omega,by omega⟩
   rw[qt5 hF ⟨by omega,by omega⟩,qoz hk (by omega)]
   simp only[qvK,ok3]
   have hz:=qvo (n:=x) (k:=k) (by omega) h2
   rw[jr (by omega)]
   by_cases h3:l.length+(ze x k).length≤8192
   ·rw[if_neg (by simp;omega),qoc hF hl (qn8 _ _) hlm (by omega)]
    simp only[qvK]
    rw[qC (by omega),qui hF h1 h2 hg hgm j (i+1) (l++ze x k) (by omega) (by omega) (kp hl (qn8 _ _)) (by rw[qvN];omega)]
    rw[qvM]
   ·rw[if_pos (by simp;omega),if_neg (by simp only[qvN];omega)]
  ·rw[if_neg (by simp;omega),qv1 (by omega)]
   have:zes k []=[]:=rfl
   rw[this,qwL,if_pos hlm]
   rfl
theorem qow {F k:Nat}(hF:20000≤F)(h1:1≤k)(h2:k≤16){g l:qyo}(hg:L40 g)(hgm:g.length≤10000)(hl:Bit l)(hlm:l.length≤8192) :
  qaH F (l.length:Int) (pk l) g (k:Int)=some (if (l++zes k g).length≤8192 then (((l++zes k g).length:Int),pk (l++zes k g),true) else (0,[],false)):=by
 unfold qaH
 have:=qui hF h1 h2 hg hgm F 0 l (by omega) (by omega) hl hlm
 rw[qv5] at this
 exact this
theorem qmi:∀ {b:Bool} {a q:Int} {l:qyo},Nd a→Ris q l→(b=true→Ris a l)→∀ x∈gp b a l,0≤x∧x≤2097153
 | _,_,_,[],_,_,_=>by intro x hx;simp[gp] at hx
 | b,a,q,n::l,ha,hr,hb=>by
  intro x hx
  rw[gp] at hx
  have h1:=ha.1;have h2:=ha.2;have h3:=hr.1.1;have h4:=hr.1.2
  rcases qvR.1 hx with rfl | hx
  ·cases b with
   | true=>have:=(hb rfl).2.1;simp only[if_true];omega
   | false=>simp only[qv0,if_false];unfold foldOf;split <;> omega
  ·exact qmi hr.1 hr.2.2 (fun _=>hr.2.2) x hx
def gwOf (l:qyo)(a k:Int):Int:=if ggOf l a≠0 then ggOf l a else if ¬ Zk k then 3 else if 8192<(zes k.toNat (gp false a l)).length then 8 else 0
def gw (l:qyo)(a k:Int):Int×qyo×Int:=if gwOf l a k≠0 then (0,[],gwOf l a k) else ok3 (zes k.toNat (gp false a l))
theorem qnm {l:qyo}{a k:Int}(h:gwOf l a k≠0):gw l a k=(0,[],gwOf l a k):=by unfold gw;rw[if_pos h]
theorem qs2 {l:qyo}{a k:Int}(h:gwOf l a k=0):gw l a k=ok3 (zes k.toNat (gp false a l)):=by unfold gw;rw[if_neg (by simp[h])]
theorem qq1 {l:qyo}{a k:Int}(h:ggOf l a≠0):gwOf l a k=ggOf l a:=by unfold gwOf;rw[if_pos h]
theorem qq2 {l:qyo}{a k:Int}(h:ggOf l a=0)(h2:¬ Zk k):gwOf l a k=3:=by unfold gwOf;rw[if_neg (by simp[h]),if_pos h2]
theorem qq3 {l:qyo}{a k:Int}(h:ggOf l a=0)(h2:Zk k):gwOf l a k=if 8192<(zes k.toNat (gp false a l)).length then 8 else 0:=by unfold gwOf;rw[if_neg (by simp[h]),if_neg (fun hh=>hh h2)]
theorem qpN {F:Nat}(hF:20000≤F){l:qyo}{a k:Int}:qb5 F l a k=some (gw l a k):=by
 unfold qb5
 rw[qoq hF]
 simp only[qvK]
 by_cases h:ggOf l a=0
 ·rw[qou h]
  simp only
  rw[if_pos (by rfl)]
  unfold jz
  by_cases h2:Zk k
  ·obtain ⟨k,rfl,k1,k2⟩:=qsF h2
   obtain ⟨r1,r2,r3⟩:=qkY.1 h
   rw[if_neg (by simp;omega)]
   unfold jy
   have hL:L40 (gp false a l):=fun x hx=>by have:=qmi r3 r2 (fun h=>by cases h) x hx;omega
   have hp:=qow (l:=[]) hF k1 k2 hL (by rw[qkZ];omega) qsJ (by simp)
   rw[qv8,show (([]:qyo).length:Int)=0 from rfl,qu0] at hp
   rw[if_neg (by simp)]
   simp only
   rw[hp]
   simp only[qvK]
   have h3:=qq3 h h2
   rw[qvP] at h3
   by_cases h4:8192<(zes k (gp false a l)).length
   ·rw[if_pos h4] at h3
    rw[if_neg (show ¬ (zes k (gp false a l)).length≤8192 by omega),qnm (by rw[h3];decide),h3]
    rfl
   ·rw[if_neg h4] at h3
    rw[if_pos (show (zes k (gp false a l)).length≤8192 by omega),qs2 h3,qvP]
    rfl
  ·have h3:=qq2 h h2
   rw[if_pos (by unfold Zk at h2;simp;omega),qnm (by rw[h3];decide),h3]
   rfl
 ·have h3:=qq1 (k:=k) h
  rw[qnl h]
  simp only
  rw[if_neg (by simpa using h),qnm (by rw[h3];exact h),h3]
  unfold jz jy
  rw[if_neg (by simp)]
  simp only
  rw[if_pos (by simpa using h)]
def gfr (l:qyo)(k:Nat):Nat→Bool→Int→Nat→Int ⊕ (qyo×Nat)
 | 0,_,_,p=>.inr ([],p)
 | m+1,b,a,p=>if (zq k l p).2.2≠0 then .inl (zq k l p).2.2 else match st b a (zq k l p).1 with
  | none=>.inl 3
  | some n=>match gfr l k m true n (zq k l p).2.1.toNat with
   | .inl e=>.inl e
   | .inr r=>.inr (n::r.1,r.2)
def gfI (o:qyo)(r:Int ⊕ (qyo×Nat)):qyo×Int×Int:=match r with | .inl e=>([],0,e) | .inr r=>(o++r.1,(r.2:Int),0)
theorem quw {k:Nat}{l:qyo}(hl:Bit l){p:Nat}(h1:1≤k):(zq k l p).2.2≠0∨∃ g q:Nat,zq k l p=((g:Int),(q:Int),0)∧g≤1099511627776∧q≤l.length:=by
 unfold zq
 cases hz:fz (l.drop p) with
 | none=>left;simp
 | some h =>
  simp only
  by_cases h3:41≤h*k
  ·left;rw[if_pos h3];simp
  ·rw[if_neg h3]
   have p3:=qoQ (a:=h*k) h1
   have p0:0<2^(h*k):=qw5 (by decide)
   cases hf:flOf l (p+h+1) (2^(h*k+k)-2^(h*k)) with
   | none=>left;simp[en]
   | some r =>
    have:=qub hl (n:=r.1) (q:=r.2) (by omega) hf
    simp only[qwo,en]
    by_cases h4:1099511627776<2^(h*k)+r.1-1
    ·left;rw[if_pos h4];simp
    ·right;rw[if_neg h4];exact ⟨_,_,rfl,by omega,this.2⟩
theorem qot {F k many:Nat}{l:qyo}(hF:20000≤F)(hl:Bit l)(hlm:l.length≤8192)(h1:1≤k)(h2:k≤16)(hm:many≤300):∀ (j i p:Nat) (a:Int) (b:Bool) (o:qyo),many<j+i→i≤many→p≤l.length→Nd a→o.length+(many-i)≤1000 →
  vT F (l.length:Int) (pk l) (k:Int) (many:Int) j ((p:Int),o,(i:Int),a,b)=some (gfI o (gfr l k (many-i) b a p))
 | 0,_,_,_,_,_,_,_,_,_,_=>by omega
 | j+1,i,p,a,b,o,h,hi,hp,ha,ho=>by
  show qb4 F (l.length:Int) (pk l) (k:Int) (many:Int) (vT F (l.length:Int) (pk l) (k:Int) (many:Int) j) (p:Int) o (i:Int) a b=_
  unfold qb4
  by_cases hlt:i<many
  ·rw[if_pos (by simp;omega),qmb hF hl hlm hp h1 h2,show many-i=(many-(i+1))+1 from by omega]
   simp only[qvK]
   unfold gfr
   rcases quw hl (k:=k) (p:=p) h1 with hz | ⟨g,q,hz,hg,hq⟩
   ·rw[if_pos hz,if_pos (by simpa using hz)]
    rfl
   ·rw[hz]
    simp only[ne_eq,not_true_eq_false,if_false,bne_self_eq_false,qv0,qvP]
    have hs:=qpg (F:=F) (b:=b) ha (g:=(g:Int)) ⟨by omega,by omega⟩
    cases hst:st b a (g:Int) with
    | none =>
     rw[hst] at hs
     obtain ⟨x,y,e⟩:=hs
     rw[e];rfl
    | some n =>
     rw[hst] at hs
     simp only at hs
     rw[hs]
     simp only[qvK,qwc,qv0,if_false]
     rw[yb (by simp;omega),qC (by omega)]
     simp only[qvK]
     rw[qot hF hl hlm h1 h2 hm j (i+1) q n true _ (by omega) (by omega) hq (qus hst).1 (by simp;omega)]
     cases gfr l k (many-(i+1)) true n q with
     | inl e=>rfl
     | inr r=>simp[gfI]
  ·rw[if_neg (by simp;omega),show many-i=0 from by omega]
   simp[qdN,gfr,gfI]
theorem qqY {F k many p:Nat}{l:qyo}{a:Int}(hF:20000≤F)(hl:Bit l)(hlm:l.length≤8192)(h1:1≤k)(h2:k≤16)(hm:many≤300)(hp:p≤l.length)(ha:Nd a) :
  qdp F (l.length:Int) (pk l) (p:Int) a (k:Int) (many:Int)=some (gfI [] (gfr l k many false a p)):=by
 unfold qdp
 exact qot hF hl hlm h1 h2 hm F 0 p a false [] (by omega) (by omega) hp ha (by simp;omega)
theorem qne (n:Nat):qcW (n+200)=some true:=by kernel_rfl
theorem qlV {F:Nat}(hF:20000≤F):qcW F=some true:=by
 obtain ⟨n,rfl⟩:∃ n,F=n+200:=⟨F-200,by omega⟩
 exact qne n
theorem qqu:∀ {b:Bool} {a:Int} {g r:qyo},bk b a g=some r→r.length=g.length
 | _,_,[],r,h=>by simp[bk] at h;subst h;rfl
 | b,a,x::g,r,h=>by
  unfold bk at h
  cases hs:st b a x with
  | none=>rw[hs] at h;simp at h
  | some n =>
   rw[hs] at h
   simp only[qvK] at h
   cases hb:bk true n g with
   | none=>rw[hb] at h;simp at h
   | some r' =>
    rw[hb] at h
    simp only[qwo,qvY] at h
    rw[← h,qwa,qwa,qqu hb]
theorem qnG {F:Nat}{xs:qyo}(hF:xs.length<F)(hm:xs.length≤9223372036854775807):qL F xs xs=some true:=by
 rw[qfP,qeS hF hm];simp
theorem qoI {a:Int}:((decide (a<0)) || (decide (1048576<a)))=!decide (Nd a):=by
 by_cases h:Nd a
 ·rw[decide_eq_true h];have:=h.1;have:=h.2;simp;omega
 ·rw[decide_eq_false h]
  unfold Nd at h
  simp;omega
theorem qor {l:qyo}{k:Nat}:∀ {m:Nat} {b:Bool} {a:Int} {p:Nat} {r:qyo×Nat},gfr l k m b a p=.inr r→r.1.length=m
 | 0,_,_,_,r,h=>by simp[gfr] at h;subst h;rfl
 | m+1,b,a,p,r,h=>by
  unfold gfr at h
  split at h
  ·simp at h
  ·split at h
   ·simp at h
   ·split at h
    ·simp at h
    ·rename_i r' hr
     simp only[Sum.inr.injEq] at h
     rw[← h]
     simp[qor hr]
theorem qvc {b:Bool}{a n:Int}(ha:Nd a)(hn:Nd n)(hb:b=true→a<n):st b a (if b then n-a-1 else foldOf (n-a))=some n:=by
 have h1:=ha.1;have h2:=ha.2;have h3:=hn.1;have h4:=hn.2
 unfold st
 cases b with
 | true =>
  have:=hb rfl
  simp only[if_true]
  rw[if_neg (by omega),show a+(n-a-1)+1=n from by omega,if_pos hn]
 | false =>
  simp only[qv0,if_false]
  rw[qhE,show a+(n-a)=n from by omega,if_pos hn,if_neg]
  unfold foldOf;split <;> omega
theorem qt9:∀ {b:Bool} {a q:Int} {l:qyo},Nd a→Ris q l→(b=true→Ris a l)→bk b a (gp b a l)=some l
 | _,_,_,[],_,_,_=>rfl
 | b,a,q,n::l,ha,hr,hb=>by
  rw[gp,bk,qvc ha hr.1 (fun h=>(hb h).2.1)]
  simp only[qvK]
  rw[qt9 hr.1 hr.2.2 (fun _=>hr.2.2)]
  rfl
theorem qhd:∀ {q:Int} {l:qyo},Ris q l→∀ x∈l,Nd x
 | _,[],_=>by intro x hx;simp at hx
 | _,n::l,h=>by
  intro x hx
  rcases qvR.1 hx with rfl | hx
  ·exact h.1
  ·exact qhd h.2.2 x hx
theorem qvE {n k:Nat}(hk:1≤k)(hk2:k≤16)(hn:n≤1099511627776)(p r:qyo):zq k (p++ze n k++r) p.length=((n:Int),((p.length+(ze n k).length:Nat):Int),0):=by
 unfold zq
 have a1:=quv n k
 have a2:=qux (n:=n) hk
 have h40:=(qpw hn hk2).1
 have hd:(p++ze n k++r).drop p.length=un (zh n k)++(le (n+1-zf n k) (zt n k-zf n k)++r):=by
  rw[qvM,qxP];unfold ze;rw[qvM]
 rw[hd,qud]
 simp only
 rw[if_neg (by omega)]
 have:=qvq (n:=n+1-zf n k) (m:=zt n k-zf n k) (by omega) (p++un (zh n k)) r
 rw[qvN,qf9] at this
 have e:p++ze n k++r=p++un (zh n k)++le (n+1-zf n k) (zt n k-zf n k)++r:=by unfold ze;simp[qvM]
 have e2:2^(zh n k*k+k)-2^(zh n k*k)=zt n k-zf n k:=rfl
 rw[e,e2,qw1,this]
 have hdm:2^(zh n k*k)+(n+1-zf n k)-1=n:=by
  have:2^(zh n k*k)=zf n k:=rfl
  omega
 simp only[qwo,en,hdm]
 rw[if_neg (by omega)]
 unfold ze
 rw[qvN,qf9,qw1]
theorem qos {k:Nat}(hk:1≤k)(hk2:k≤16):∀ {g rs:qyo} {b:Bool} {a:Int} (p r:qyo),L40 g→bk b a g=some rs→gfr (p++zes k g++r) k g.length b a p.length=.inr (rs,p.length+(zes k g).length)
 | [],rs,b,a,p,r,_,h=>by simp[bk] at h;subst h;simp[gfr,zes]
 | x::g,rs,b,a,p,r,hg,h=>by
  have hx:=hg x qwf
  obtain ⟨n,hn⟩:=qvS hx.1
  unfold bk at h
  cases hs:st b a x with
  | none=>rw[hs] at h;simp at h
  | some y =>
   rw[hs] at h
   simp only[qvK] at h
   cases hb:bk true y g with
   | none=>rw[hb] at h;simp at h
   | some rs' =>
    rw[hb] at h
    simp only[qwo,qvY] at h
    have hz:=qvE hk hk2 (n:=n) (by omega) p (zes k g++r)
    have e:p++zes k (x::g)++r=p++ze n k++(zes k g++r):=by rw[qgU,hn,qvP];simp[qvM]
    have ih:=qos hk hk2 (p++ze n k) r (fun y hy=>hg y (qv7 _ hy)) hb
    have e2:p++ze n k++zes k g++r=p++ze n k++(zes k g++r):=by simp[qvM]
    rw[e2,qvN] at ih
    rw[e,qwa,gfr,hz]
    simp only[ne_eq,not_true_eq_false,if_false,qvP]
    rw[← hn,hs]
    simp only
    rw[ih,← h,qgU,hn,qvP,qvN,qw1]
theorem qiV (l:qyo):(srt l).Perm l:=List.mergeSort_perm l _
theorem qnP (l:qyo):(srt l).Pairwise (·≤·):=by
 have h:=List.pairwise_mergeSort (le:=fun x y:Int=>decide (x≤y)) (fun a b c h1 h2=>by simp only[decide_eq_true_eq] at *;omega) (fun a b=>by simp only[qw3,decide_eq_true_eq];omega) l
 exact h.imp (fun h=>by simpa using h)
theorem qiU {l m:qyo}(hp:l.Perm m)(hm:m.Pairwise (·≤·)):srt l=m :=
 List.Perm.eq_of_pairwise (le:=fun x y:Int=>x≤y) (fun a b _ _ h1 h2=>by omega) (qnP l) hm ((qiV l).trans hp)
theorem qoS {l:qyo}(h:l.Pairwise (·<·)):l.Pairwise (·≤·):=h.imp (fun h=>by omega)
theorem qiB {l:qyo}(h:l.Pairwise (·<·)):l.Nodup:=h.imp (fun h=>by omega)
theorem qmC {l:qyo}(h:l.Pairwise (·≤·))(hn:l.Nodup):l.Pairwise (·<·):=by
 have:=List.Pairwise.and h hn
 exact this.imp (fun h=>by have h1:=h.1;have h2:=h.2;omega)
theorem qhv (xs:qyo):(Go.Lib.compact xs).length≤xs.length:=by
 unfold Go.Lib.compact Go.Lib.compactUpTo
 rw[qwO]
 exact qwS (qxD _ _) (by simp)
theorem qjX {xs:qyo}{j:Nat}(h0:0<j)(hj:j<xs.length):Go.Lib.keeps xs.toArray j=decide (xs[j]≠xs[j-1]):=by
 unfold Go.Lib.keeps
 have e1:xs.toArray[j]! = xs[j]:=by rw[getElem!_pos xs.toArray j (by simpa using hj)];simp
 have e2:xs.toArray[j-1]! = xs[j-1]:=by rw[getElem!_pos xs.toArray (j-1) (by simp;omega)];simp
 rw[e1,e2]
 have:j≠0:=by omega
 simp[this]
theorem qh8 {xs:qyo}(h:xs.Pairwise (·<·)):Go.Lib.compact xs=xs:=by
 refine Go.Lib.compact_all _ fun j hj=>?_
 by_cases h0:j=0
 ·subst h0;simp[Go.Lib.keeps]
 ·rw[qjX (by omega) hj]
  have:=qwX.1 h (j-1) j (by omega) hj (by omega)
  simp;omega
theorem qkQ {xs:qyo}(h:xs.Pairwise (·≤·))(he:(Go.Lib.compact xs).length=xs.length):xs.Pairwise (·<·):=by
 unfold Go.Lib.compact Go.Lib.compactUpTo at he
 rw[qwO] at he
 have he':((qwm xs.length).filter (Go.Lib.keeps xs.toArray)).length=(qwm xs.length).length:=by rw[he];simp
 have hk:=List.length_filter_eq_length_iff.1 he'
 rw[qwX]
 intro i j hi hj hij
 have h1:=hk j (by simpa using hj)
 rw[qjX (by omega) hj] at h1
 have h2:xs[j]≠xs[j-1]:=by simpa using h1
 have h3:=qwX.1 h (j-1) j (by omega) hj (by omega)
 have h4:xs[i]≤xs[j-1]:=by
  by_cases e:i=j-1
  ·subst e;omega
  ·exact qwX.1 h i (j-1) hi (by omega) (by omega)
 omega
theorem yP:∀ {q:Int} {l:qyo},Ris q l→l.Pairwise (·<·)∧∀ z∈l,q<z
 | _,[],_=>by simp
 | q,x::l,h=>by
  obtain ⟨h1,h2⟩:=yP h.2.2
  have h3:=h.2.1
  refine ⟨qwM.2 ⟨h2,h1⟩,fun z hz=>?_⟩
  rcases qvR.1 hz with rfl | hz
  ·exact h3
  ·have:=h2 z hz;omega
theorem qli:∀ {q:Int} {l:qyo},l.Pairwise (·<·)→(∀ z∈l,q<z)→(∀ z∈l,Nd z)→Ris q l
 | _,[],_,_,_=>trivial
 | q,x::l,h,hq,hn=>⟨hn x (by simp),hq x (by simp),qli (qwM.1 h).2 (qwM.1 h).1 fun z hz=>hn z (by simp[hz])⟩
def cmn (l r:qyo):Bool:=l.any fun x=>r.contains x
theorem qoi {l r:qyo}:cmn l r=false↔∀ x∈l,x∉r:=by simp[cmn]
def mrg (l r:qyo):qyo×Int:=if cmn l r then ([],6) else if 300<l.length+r.length then ([],2) else (srt (l++r),0)
theorem qoy {F n:Nat}(h:n≤1000000):yV F ([]:qyo) 0 (n:Int)=some []:=by
 unfold yV lett
 rw[if_neg (by simp)]
 have e1:isub .i64 ((0:Nat):Int) (([]:qyo).length:Int)=0:=by decide
 rw[e1,zB (by omega) (by omega),Int.sub_zero]
 by_cases h0:n=0
 ·subst h0;rfl
 ·simp only
  rw[if_pos (by simp;omega)]
  have e2:sub ([]:qyo) 0 ((0:Nat):Int)=some []:=by decide
  have e3:appz 8796093022208 ([]:qyo) 0 (n:Int)=some (qvU n 0):=by
   unfold appz
   rw[if_pos (by simp;omega)]
   simp
  rw[e2]
  simp only[qvK]
  rw[e3]
  simp only[qvK]
  have e4:sub (qvU n (0:Int)) 0 ((([]:qyo).length:Nat):Int)=some []:=by
   have:=qph (l:=qvU n (0:Int)) (i:=0) (j:=0) (by omega) (by omega)
   simpa using this
  rw[e4]
  rfl
theorem qpF {F:Nat}(hF:20000≤F){a b:qyo}(h:a.length+b.length≤1000000):zi F [a,b]=some (a++b):=by
 obtain ⟨k,rfl⟩:∃ k,F=k+3:=⟨F-3,by omega⟩
 have i0:idx [a,b] (0:Int)=some a:=rfl
 have i1:idx [a,b] (1:Int)=some b:=rfl
 have e0:iadd .i64 0 (a.length:Int)=(a.length:Int):=by rw[qD (by omega) (by omega)];omega
 have e1:iadd .i64 (a.length:Int) (b.length:Int)=((a.length+b.length:Nat):Int):=jr (by omega)
 have o1:iadd .i64 0 1=1:=by decide
 have o2:iadd .i64 1 1=2:=by decide
 have hs:zQ (k+3) [a,b] ((a.length+b.length:Nat):Int)=some (a++b):=by
  unfold zQ
  rw[qoy h]
  simp only[qvK]
  show qH (k+3) [a,b] (qM (k+3) [a,b] (k+2)) [] 0=_
  unfold qH
  rw[if_pos (by simp),i0]
  simp only[qvK]
  rw[yb (by simp;omega),o1]
  simp only[qvK,qv8]
  show qH (k+3) [a,b] (qM (k+3) [a,b] (k+1)) a 1=_
  unfold qH
  rw[if_pos (by simp),i1]
  simp only[qvK]
  rw[yb (by omega),o2]
  simp only[qvK]
  show qH (k+3) [a,b] (qM (k+3) [a,b] k) (a++b) 2=_
  unfold qH
  rw[if_neg (by simp)]
  rfl
 unfold zi
 show qI (k+3) [a,b] (qN (k+3) [a,b] (k+2)) 0 0=_
 unfold qI
 rw[if_pos (by simp),i0]
 simp only[qvK]
 rw[e0,if_neg (by simp),o1]
 show qI (k+3) [a,b] (qN (k+3) [a,b] (k+1)) (a.length:Int) 1=_
 unfold qI
 rw[if_pos (by simp),i1]
 simp only[qvK]
 rw[e1,if_neg (by simp;omega),o2]
 show qI (k+3) [a,b] (qN (k+3) [a,b] k) ((a.length+b.length:Nat):Int) 2=_
 unfold qI
 rw[if_neg (by simp)]
 exact hs
theorem qpf {l r:qyo}(hl:l.Pairwise (·<·))(hr:r.Pairwise (·<·)):(srt (l++r)).Pairwise (·<·)↔cmn l r=false:=by
 rw[qoi]
 constructor
 ·intro h x hx hx'
  have hn:(l++r).Nodup:=(qiV _).nodup_iff.1 (qiB h)
  exact (qwr.1 hn).2.2 x hx x hx' rfl
 ·intro h
  refine qmC (qnP _) ((qiV _).nodup_iff.2 (qwr.2 ⟨qiB hl,qiB hr,fun a ha b hb e=>?_⟩))
  subst e
  exact h a ha hb
theorem qjW {F:Nat}(hF:20000≤F){l r:qyo}(hl:l.Pairwise (·<·))(hr:r.Pairwise (·<·))(hm:l.length+r.length≤1000000) :
  ((zi F ([l,r]:List (qyo))).bind fun x16=>((zg F x16).bind fun x19=>(chk (decide (x19.length=x16.length)) (((kC F x19).bind fun x29=>((zE F x29).bind fun x32=>(if (decide ((x32.length:Int)<(x19.length:Int))) then some (([]:qyo),(6:Int)) else (if (decide (300<(x19.length:Int))) then some (([]:qyo),2) else some (x19,0)))))))))=some (mrg l r):=by
 rw[qpF hF hm]
 simp only[qvK]
 have hsl:(srt (l++r)).length=l.length+r.length:=by rw[qgL,qvN]
 unfold zg
 rw[if_pos (by rw[qvN];omega)]
 simp only[qvK]
 unfold chk
 rw[if_pos (by rw[qgL];simp)]
 unfold kC
 rw[yb (by rw[hsl];simp;omega)]
 simp only[qvK,qv8]
 unfold zE
 rw[if_pos (qhv _)]
 simp only[qvK]
 unfold mrg
 have hc:=qhv (srt (l++r))
 cases h:cmn l r
 ·have hp:=(qpf hl hr).2 h
  rw[qh8 hp,if_neg (by simp),hsl,if_neg (show ¬ (false=true) by simp)]
  by_cases h3:300<l.length+r.length
  ·rw[if_pos (by simp;omega),if_pos h3]
  ·rw[if_neg (by simp;omega),if_neg h3]
 ·have hne:(Go.Lib.compact (srt (l++r))).length≠(srt (l++r)).length:=by
   intro he
   have:=(qpf hl hr).1 (qkQ (qnP _) he)
   rw[h] at this
   simp at this
  rw[if_pos (by simp only[decide_eq_true_eq];omega),if_pos rfl]
def cr:Int→qyo→Nat
 | _,[]=>0
 | v,y::t=>if y=v then 1+cr (v+1) t else 0
def rs:qyo→List (Int×Int)
 | []=>[]
 | x::t=>match rs t with
  | (y,n)::r=>if y=x+1 then (x,n+1)::r else (x,1)::(y,n)::r
  | []=>[(x,1)]
def rng:Int→Nat→qyo
 | _,0=>[]
 | a,n+1=>a::rng (a+1) n
def flat (R:List (Int×Int)):qyo:=R.flatMap fun r=>rng r.1 r.2.toNat
theorem qsV (v y:Int)(t:qyo):cr v (y::t)=if y=v then 1+cr (v+1) t else 0:=rfl
theorem qts (x:Int)(t:qyo):rs (x::t)=match rs t with
  | (y,n)::r=>if y=x+1 then (x,n+1)::r else (x,1)::(y,n)::r
  | []=>[(x,1)]:=rfl
theorem qqH:∀ (v:Int) (t:qyo),cr v t≤t.length
 | _,[]=>qv3 _
 | v,y::t=>by
  unfold cr
  have:=qqH (v+1) t
  split
  ·rw[qwa];omega
  ·omega
theorem qqG:∀ (v:Int) (t:qyo) {j:Nat},j<cr v t→t[j]?=some (v+j)
 | _,[],_,h=>by simp[cr] at h
 | v,y::t,j,h=>by
  unfold cr at h
  split at h
  ·rename_i he
   cases j with
   | zero=>simp[he]
   | succ j =>
    rw[qxu,qqG (v+1) t (by omega)]
    congr 1;omega
  ·omega
theorem qqF:∀ (v:Int) (t:qyo) {y:Int},t[cr v t]?=some y→y≠v+cr v t
 | _,[],_,h=>by simp[cr] at h
 | v,x::t,y,h=>by
  unfold cr at h ⊢
  split at h
  ·rename_i he
   rw[if_pos he]
   rw[qxq 1,qxu] at h
   have:=qqF (v+1) t h
   omega
  ·rename_i he
   rw[if_neg he]
   simp at h
   omega
theorem qo7:∀ (x:Int) (t:qyo),rs (x::t)=(x,1+(cr (x+1) t:Int))::rs (t.drop (cr (x+1) t))
 | x,[]=>rfl
 | x,y::t=>by
  have ih:=qo7 y t
  rw[qts,ih,qsV]
  simp only
  by_cases h:y=x+1
  ·subst h
   rw[if_pos rfl,if_pos rfl,qxq 1,List.drop_succ_cons]
   congr 2
  ·rw[if_neg h,if_neg h,qv5,ih]
   simp
theorem qdD:∀ (a:Int) (n:Nat),(rng a n).length=n
 | _,0=>rfl
 | a,n+1=>by rw[rng,qwa,qdD]
theorem qiE:∀ (a:Int) (n:Nat),rng a (n+1)=rng a n++[a+n]
 | a,0=>by simp[rng]
 | a,n+1=>by
  rw[rng,qiE (a+1) n,rng,qwQ,show a+1+(n:Int)=a+((n+1:Nat):Int) from by omega]
theorem qct:∀ {a z:Int} {n:Nat},z∈rng a n↔a≤z∧z<a+n
 | a,z,0=>by simp[rng]
 | a,z,n+1=>by
  rw[rng,qvR,qct]
  omega
theorem kn (r:Int×Int)(R:List (Int×Int)):flat (r::R)=rng r.1 r.2.toNat++flat R:=rfl
theorem qic (A B:List (Int×Int)):flat (A++B)=flat A++flat B:=by unfold flat;rw[List.flatMap_append]
theorem qid {R:List (Int×Int)}{z:Int}:z∈flat R↔∃ r∈R,r.1≤z∧z<r.1+r.2.toNat:=by
 unfold flat
 rw[List.mem_flatMap]
 constructor
 ·rintro ⟨r,h1,h2⟩;exact ⟨r,h1,qct.1 h2⟩
 ·rintro ⟨r,h1,h2⟩;exact ⟨r,h1,qct.2 h2⟩
def Sep:Int→List (Int×Int)→Prop
 | _,[]=>True
 | e,r::R=>e<r.1∧1≤r.2∧Sep (r.1+r.2) R
theorem qrZ {e e':Int}{R:List (Int×Int)}(h:Sep e R)(he:e'≤e):Sep e' R:=by
 cases R with
 | nil=>trivial
 | cons r R=>exact ⟨by have:=h.1;omega,h.2⟩
theorem qdE:∀ (l:qyo),flat (rs l)=l
 | []=>rfl
 | x::t=>by
  have ih:=qdE t
  unfold rs
  cases h:rs t with
  | nil =>
   rw[h] at ih
   simp only[kn]
   rw[ih]
   simp[rng]
  | cons p r =>
   obtain ⟨y,n⟩:=p
   rw[h] at ih
   simp only
   by_cases he:y=x+1
   ·rw[if_pos he]
    subst he
    rw[kn] at ih ⊢
    simp only at ih ⊢
    by_cases hn:0≤n
    ·rw[show (n+1).toNat=n.toNat+1 from by omega,rng,qwQ,ih]
    ·exfalso
     have:∀ (l:qyo),∀ r∈rs l,1≤r.2:=by
      intro l
      induction l with
      | nil=>intro r hr;simp[rs] at hr
      | cons x t ih =>
       intro r hr
       unfold rs at hr
       cases h:rs t with
       | nil=>rw[h] at hr;simp at hr;rw[hr];simp
       | cons p q =>
        obtain ⟨y,n⟩:=p
        rw[h] at hr ih
        have hn:=ih (y,n) (by simp)
        simp only at hr hn
        split at hr
        ·rcases qvR.1 hr with rfl | hr
         ·simp only;omega
         ·exact ih r (by simp[hr])
        ·rcases qvR.1 hr with rfl | hr
         ·simp
         ·exact ih r hr
     have:=this t (x+1,n) (by rw[h];simp)
     simp only at this
     omega
   ·rw[if_neg he,kn,ih]
    simp[rng]
theorem qhf:∀ {q:Int} {l:qyo},l.Pairwise (·<·)→(∀ z∈l,q<z)→Sep q (rs l)
 | _,[],_,_=>trivial
 | q,x::t,h,hq=>by
  have h':=qwM.1 h
  have ih:Sep x (rs t):=qhf h'.2 h'.1
  have hx:=hq x (by simp)
  unfold rs
  cases hr:rs t with
  | nil=>exact ⟨hx,by simp,trivial⟩
  | cons p r =>
   obtain ⟨y,n⟩:=p
   rw[hr] at ih
   obtain ⟨i1,i2,i3⟩:=ih
   simp only at i1 i2 i3 ⊢
   by_cases he:y=x+1
   ·rw[if_pos he]
    subst he
    refine ⟨hx,by simp only;omega,?_⟩
    simp only
    rw[show x+(n+1)=x+1+n from by omega]
    exact i3
   ·rw[if_neg he]
    exact ⟨hx,by simp,by simp only;omega,i2,i3⟩
theorem qnH:∀ {e:Int} {R:List (Int×Int)},Sep e R→∀ z∈flat R,e<z
 | _,[],_=>by simp[flat]
 | e,r::R,h=>by
  intro z hz
  rw[kn] at hz
  rcases qvQ.1 hz with hz | hz
  ·have:=qct.1 hz;have:=h.1;omega
  ·have:=qnH h.2.2 z hz;have:=h.1;have:=h.2.1;omega
theorem qrL:∀ (a:Int) (n:Nat),(rng a n).Pairwise (·<·)
 | _,0=>List.Pairwise.nil
 | a,n+1=>qwM.2 ⟨fun z hz=>by have:=qct.1 hz;omega,qrL (a+1) n⟩
theorem qnI:∀ {e:Int} {R:List (Int×Int)},Sep e R→(flat R).Pairwise (·<·)
 | _,[],_=>by simp[flat]
 | e,r::R,h=>by
  rw[kn,List.pairwise_append]
  refine ⟨qrL _ _,qnI h.2.2,fun x hx y hy=>?_⟩
  have h1:=qct.1 hx
  have h2:=qnH h.2.2 y hy
  have:=h.2.1
  omega
theorem qdZ:∀ {e:Int} {R:List (Int×Int)} (p:Int×Int→Bool),Sep e R→Sep e (R.filter p)
 | _,[],_,_=>trivial
 | e,r::R,p,h=>by
  have ih:=qdZ p h.2.2
  rw[qw0]
  split
  ·exact ⟨h.1,h.2.1,ih⟩
  ·exact qrZ ih (by have:=h.1;have:=h.2.1;omega)
theorem qhB (F:Nat){xs:qyo}(hm:xs.length≤1000000):∀ (k i:Nat),xs.length<k+i→i≤xs.length→zS F xs xs k (i:Int)=some true
 | 0,_,_,_=>by omega
 | k+1,i,h,hi=>by
  show yo F xs xs (zS F xs xs k) (i:Int)=_
  unfold yo
  by_cases hlt:i<xs.length
  ·rw[if_pos (by simp;omega),qG,qvL hlt]
   simp only[qvK]
   rw[if_neg (by simp),qC (by omega)]
   exact qhB F hm k (i+1) (by omega) (by omega)
  ·rw[if_neg (by simp;omega)];rfl
theorem qaR {F:Nat}{xs:qyo}(hF:xs.length<F)(hm:xs.length≤1000000):qL F xs xs=some true:=by
 unfold qL
 rw[if_neg (by simp)]
 exact qhB F hm F 0 (by omega) (by omega)
theorem qhC (F:Nat){xs:List (Int×Int)}(hm:xs.length≤1000000):∀ (k i:Nat),xs.length<k+i→i≤xs.length→y8 F xs xs k (i:Int)=some true
 | 0,_,_,_=>by omega
 | k+1,i,h,hi=>by
  show qbt F xs xs (y8 F xs xs k) (i:Int)=_
  unfold qbt
  by_cases hlt:i<xs.length
  ·rw[if_pos (by simp;omega),qG,qvL hlt]
   simp only[qvK]
   rw[if_neg (by simp),qC (by omega)]
   exact qhC F hm k (i+1) (by omega) (by omega)
  ·rw[if_neg (by simp;omega)];rfl
theorem qp1 {F:Nat}{xs:List (Int×Int)}(hF:xs.length<F)(hm:xs.length≤1000000):qdw F xs xs=some true:=by
 unfold qdw
 rw[if_neg (by simp)]
 exact qhC F hm F 0 (by omega) (by omega)
def qfz {σ τ:Type}(yy:σ→(Int×Int)→Option (σ ⊕ τ)):List (Int×Int)→σ→Option (σ ⊕ τ)
 | [],s=>some (.inl s)
 | r::R,s=>(yy s r).bind (Sum.elim (fun s'=>qfz yy R s') (fun t=>some (.inr t)))
def Mid (l:qyo):Prop:=∀ x∈l,-4611686018427387904≤x∧x≤4611686018427387904
theorem qrR {σ τ:Type}{F:Nat}{yy:σ→(Int×Int)→Option (σ ⊕ τ)}{rec31:(Int×σ)→Option (σ ⊕ τ)}{l:qyo}{i:Nat}{x:Int}{s:σ}(hl:l.length≤1000000)(hm:Mid l)(hx:l[i]?=some x) :
  ∀ (k j:Nat),cr (x+1) (l.drop (i+1))<k+j→j≤cr (x+1) (l.drop (i+1)) →
   kw F yy rec31 l (i:Int) s k ((1+j:Nat):Int)=qaq F yy rec31 l (i:Int) s ((1+cr (x+1) (l.drop (i+1)):Nat):Int)
 | 0,_,_,_=>by omega
 | k+1,j,h,hj=>by
  have hi:=(qvW.1 hx).1
  have hcl:=qqH (x+1) (l.drop (i+1))
  rw[qws] at hcl
  have hxm:=hm x (List.mem_of_getElem? hx)
  show qap F yy rec31 l (i:Int) s (kw F yy rec31 l (i:Int) s k) ((1+j:Nat):Int)=_
  unfold qap
  rw[jr (by omega)]
  by_cases hlt:i+(1+j)<l.length
  ·have hg:l[i+(1+j)]?=some l[i+(1+j)]:=qvL hlt
   have hd:(l.drop (i+1))[j]?=some l[i+(1+j)]:=by rw[qwP,show i+1+j=i+(1+j) from by omega];exact hg
   rw[if_pos (by simp;omega),qG,qG,hx,hg]
   simp only[qvK]
   rw[qD (by omega) (by omega)]
   unfold qar
   by_cases hjc:j<cr (x+1) (l.drop (i+1))
   ·have:=qqG (x+1) (l.drop (i+1)) hjc
    rw[hd,qvY] at this
    rw[if_pos (by rw[this];simp;omega),qC (by omega),show 1+j+1=1+(j+1) from by omega]
    exact qrR hl hm hx k (j+1) (by omega) (by omega)
   ·obtain rfl:j=cr (x+1) (l.drop (i+1)):=by omega
    have:=qqF (x+1) (l.drop (i+1)) hd
    rw[if_neg (by simp;omega)]
  ·obtain rfl:j=cr (x+1) (l.drop (i+1)):=by omega
   rw[if_neg (by simp;omega)]
   rfl
theorem qrS {σ τ:Type}{F:Nat}{yy:σ→(Int×Int)→Option (σ ⊕ τ)}{l:qyo}(hl:l.length≤1000000)(hF:l.length+1<F)(hm:Mid l) :
  ∀ (k i:Nat) (s:σ),l.length<k+i→i≤l.length→qX F yy l k ((i:Int),s)=qfz yy (rs (l.drop i)) s
 | 0,_,_,_,_=>by omega
 | k+1,i,s,h,hi=>by
  show qao F yy l (qX F yy l k) (i:Int) s=_
  unfold qao
  by_cases hlt:i<l.length
  ·have hcl:=qqH (l[i]+1) (l.drop (i+1))
   rw[qws] at hcl
   have h1:=qrR (F:=F) (yy:=yy) (rec31:=qX F yy l k) (s:=s) hl hm (qvL hlt) F 0 (by omega) (by omega)
   rw[show ((1+0:Nat):Int)=1 from rfl] at h1
   rw[if_pos (by simp;omega),h1,qvV hlt,qo7]
   unfold qaq qfz
   rw[qG,qvL hlt]
   simp only[qvK]
   rw[jr (by omega),show ((1+cr (l[i]+1) (l.drop (i+1)):Nat):Int)=1+(cr (l[i]+1) (l.drop (i+1)):Int) from by omega]
   congr 2
   funext s'
   rw[qrS hl hF hm k _ s' (by omega) (by omega),List.drop_drop]
   congr 3
   omega
  ·rw[if_neg (by simp;omega),qv1 (by omega)]
   rfl
theorem qtu {σ τ:Type}{F:Nat}{yy:σ→(Int×Int)→Option (σ ⊕ τ)}{l:qyo}{s:σ}(hl:l.length≤1000000)(hF:l.length+1<F)(hm:Mid l):qbh F yy l s=qfz yy (rs l) s:=by
 unfold qbh
 exact qrS hl hF hm F 0 s (by omega) (by omega)
def spO (least:Int)(R:List (Int×Int)):List (Int×Int):=R.filter fun r=>decide (least≤r.2)
def spS (least:Int)(R:List (Int×Int)):List (Int×Int):=R.filter fun r=>decide (r.2<least)
theorem qup {least:Int}{r:Int×Int}{R:List (Int×Int)}(h:least≤r.2):spO least (r::R)=r::spO least R:=by unfold spO;rw[qw0,if_pos (by simpa using h)]
theorem qun {least:Int}{r:Int×Int}{R:List (Int×Int)}(h:¬ least≤r.2):spO least (r::R)=spO least R:=by unfold spO;rw[qw0,if_neg (by simpa using h)]
theorem qur {least:Int}{r:Int×Int}{R:List (Int×Int)}(h:¬ least≤r.2):spS least (r::R)=r::spS least R:=by unfold spS;rw[qw0,if_pos (by simpa using h)]
theorem quq {least:Int}{r:Int×Int}{R:List (Int×Int)}(h:least≤r.2):spS least (r::R)=spS least R:=by unfold spS;rw[qw0,if_neg (by simpa using h)]
theorem qj9 {F:Nat}{o:List (Int×Int)}{a n:Int}(ha:-4611686018427387904≤a∧a≤4611686018427387904)(hn:0≤n∧n≤1000000){rest:qyo}(hr:rest.length≤1000000):∀ (k j:Nat),n.toNat<k+j→j≤n.toNat →
  jQ F o a n k ((j:Int),rest++rng a j)=some (.inl (rest++rng a n.toNat,o))
 | 0,_,_,_=>by omega
 | k+1,j,h,hj=>by
  show qdi F o a n (jQ F o a n k) (j:Int) (rest++rng a j)=_
  unfold qdi
  by_cases hlt:j<n.toNat
  ·rw[if_pos (by simp;omega),yb (by simp[qdD];omega),qD (by omega) (by omega),qC (by omega)]
   simp only[qvK]
   rw[qvM,← qiE]
   exact qj9 ha hn hr k (j+1) (by omega) (by omega)
  ·rw[if_neg (by simp;omega)]
   obtain rfl:j=n.toNat:=by omega
   rfl
def Small (R:List (Int×Int)):Prop:=∀ r∈R,(-4611686018427387904≤r.1∧r.1≤4611686018427387904)∧0≤r.2∧r.2≤1000000
def rawY (F:Nat)(least:Int)(s:qyo×List (Int×Int))(r:Int×Int):Option ((qyo×List (Int×Int)) ⊕ Empty):=qbg F least s.1 s.2 r.1 r.2
theorem qhg {F:Nat}{least:Int}(hF:1000001<F):∀ (R:List (Int×Int)) (rest:qyo) (o:List (Int×Int)),Small R→rest.length+(flat R).length≤1000000→o.length+R.length≤1000000 →
  qfz (rawY F least) R (rest,o)=some (.inl (rest++flat (spS least R),o++spO least R))
 | [],rest,o,_,_,_=>by simp[qfz,spS,spO,flat]
 | (a,n)::R,rest,o,hs,h1,h2=>by
  have hr:=hs (a,n) (by simp)
  have hs':Small R:=fun r hr=>hs r (by simp[hr])
  rw[kn,qvN,qdD] at h1
  rw[qwa] at h2
  simp only at hr h1
  show ((qbg F least rest o a n).bind _)=_
  unfold qbg
  by_cases h:least≤n
  ·rw[if_pos (by simpa using h),yb (by simp;omega)]
   simp only[qvK,Sum.elim_inl]
   rw[qhg hF R _ _ hs' (by omega) (by simp;omega)]
   rw[qup (by exact h),quq (by exact h),qvM]
   rfl
  ·rw[if_neg (by simpa using h)]
   have hl:=qj9 (F:=F) (o:=o) hr.1 hr.2 (rest:=rest) (by omega) F 0 (by omega) (by omega)
   rw[rng,qwL] at hl
   rw[show ((0:Nat):Int)=0 from rfl] at hl
   rw[hl]
   simp only[qvK,Sum.elim_inl]
   rw[qhg hF R _ _ hs' (by rw[qvN,qdD];omega) (by omega)]
   rw[qun (by exact h),qur (by exact h),kn,qvM]
theorem qrP:∀ {q:Int} {R:List (Int×Int)},Sep q R→∀ r∈R,1≤r.2
 | _,[],_=>by simp
 | q,r::R,h=>by
  intro r' hr
  rcases qvR.1 hr with rfl | hr
  ·exact h.2.1
  ·exact qrP h.2.2 r' hr
theorem qg5 {R:List (Int×Int)}{r:Int×Int}(hr:r∈R):r.2.toNat≤(flat R).length:=by
 obtain ⟨A,B,rfl⟩:=List.append_of_mem hr
 rw[qic,kn,qvN,qvN,qdD]
 omega
theorem qg4 {q:Int}{R:List (Int×Int)}(h:Sep q R):R.length≤(flat R).length:=by
 induction R generalizing q with
 | nil=>simp
 | cons r R ih =>
  have:=ih h.2.2
  have:=h.2.1
  rw[kn,qvN,qdD,qwa]
  omega
theorem qoZ {q:Int}{l:qyo}(h:Ris q l):Mid l:=fun x hx=>by have:=qhd h x hx;unfold Nd at this;omega
theorem qrQ {q:Int}{l:qyo}(hl:l.length≤1000000)(h:Ris q l):Small (rs l):=by
 intro r hr
 have hs:=qhf (yP h).1 (yP h).2
 have h1:=qrP hs r hr
 have h2:=qg5 hr
 have hf:r.1∈flat (rs l):=qid.2 ⟨r,hr,by omega,by omega⟩
 rw[qdE] at h2 hf
 have h3:=qoZ h _ hf
 exact ⟨h3,by omega,by omega⟩
theorem qiK {F:Nat}(hF:2000000≤F){q:Int}{l:qyo}{least:Int}(hl:l.length≤300)(h:Ris q l):qdV F l least=some (spO least (rs l),flat (spS least (rs l))):=by
 unfold qdV qfd
 simp only[qvK]
 have hs:=qhf (yP h).1 (yP h).2
 have hlong:=qg4 hs
 rw[qdE] at hlong
 have hf:=qhg (F:=F) (least:=least) (by omega) (rs l) [] [] (qrQ (by omega) h) (by rw[qdE];simp;omega) (by simp;omega)
 have he:=qtu (yy:=rawY F least) (s:=(([]:qyo),([]:List (Int×Int)))) (by omega) (by omega:l.length+1<F) (qoZ h)
 rw[hf] at he
 show ((qbh F (rawY F least) l ([],[])).bind _)=_
 rw[he]
 simp
def spE (l:qyo)(least:Int):Int:=if gkc l≠0 then gkc l else if least<2∨300<least then 3 else 0
def spl (l:qyo)(least:Int):List (Int×Int)×qyo×Int:=if spE l least≠0 then ([],[],spE l least) else (spO least (rs l),flat (spS least (rs l)),0)
theorem qnO {l:qyo}{least:Int}:spE l least=0↔(l.length≤300∧Ris (-1) l)∧2≤least∧least≤300:=by
 unfold spE
 rw[← zD]
 by_cases h:gkc l=0
 ·rw[if_neg (by simp[h])]
  by_cases h2:least<2∨300<least
  ·rw[if_pos h2];simp;omega
  ·rw[if_neg h2];simp[h];omega
 ·rw[if_pos h];simp[h]
theorem qu9 {l:qyo}{least:Int}(h:spE l least=0):spl l least=(spO least (rs l),flat (spS least (rs l)),0):=by unfold spl;rw[if_neg (by simp[h])]
theorem qtB {l:qyo}{least:Int}(h:spE l least≠0):spl l least=([],[],spE l least):=by unfold spl;rw[if_pos h]
theorem qmL {F:Nat}(hF:2000000≤F){l:qyo}{least:Int}:qch F l least=some (spl l least):=by
 unfold qch
 rw[jT (by omega)]
 simp only[qvK]
 have hj:jE F l least (spE l least)=some (spl l least):=by
  unfold jE
  by_cases h:spE l least=0
  ·rw[if_neg (by simp[h]),qu9 h,qiK hF (qnO.1 h).1.1 (qnO.1 h).1.2]
   rfl
  ·rw[if_pos (by simpa using h),qtB h]
 by_cases h:gkc l=0
 ·rw[if_pos (by simpa using h)]
  unfold jF
  by_cases h2:least<2∨300<least
  ·have e:spE l least=3:=by unfold spE;rw[if_neg (by simp[h]),if_pos h2]
   rw[if_pos (by simpa using h2),← hj,e]
  ·have e:spE l least=0:=by unfold spE;rw[if_neg (by simp[h]),if_neg h2]
   rw[if_neg (by simp;omega),← hj,e,h]
 ·rw[if_neg (by simpa using h)]
  unfold jF
  have e:spE l least=gkc l:=by unfold spE;rw[if_pos h]
  rw[if_neg (by simp),← hj,e]
theorem qrx:∀ {A B:qyo},A.Pairwise (·<·)→B.Pairwise (·<·)→(∀ z,z∈A↔z∈B)→A=B
 | [],[],_,_,_=>rfl
 | [],s::B,_,_,h=>by have:=(h s).2 (by simp);simp at this
 | r::A,[],_,_,h=>by have:=(h r).1 (by simp);simp at this
 | r::A,s::B,hA,hB,h=>by
  obtain ⟨fA,pA⟩:=qwM.1 hA
  obtain ⟨fB,pB⟩:=qwM.1 hB
  have hrs:r=s:=by
   rcases qvR.1 ((h r).1 (by simp)) with h1 | h1
   ·exact h1
   ·rcases qvR.1 ((h s).2 (by simp)) with h2 | h2
    ·exact h2.symm
    ·have:=fA s h2;have:=fB r h1;omega
  subst hrs
  congr 1
  refine qrx pA pB fun x=>⟨fun hx=>?_,fun hx=>?_⟩
  ·rcases qvR.1 ((h x).1 (by simp[hx])) with h1 | h1
   ·subst h1;have:=fA x hx;omega
   ·exact h1
  ·rcases qvR.1 ((h x).2 (by simp[hx])) with h1 | h1
   ·subst h1;have:=fB x hx;omega
   ·exact h1
theorem qs7 {F:Nat}{x y:Int}:vP F x y=some (decide (x<y)):=by
 unfold vP jx
 simp[vq]
theorem qs3 {i j:Nat}(h:i+j<1000000000):iconv .i64 (ishr .u64 (iconv .u64 (iadd .i64 (i:Int) (j:Int))) 1)=(((i+j)/2:Nat):Int):=by
 rw[jr (by omega)]
 have e1:iconv .u64 ((i+j:Nat):Int)=((i+j:Nat):Int):=yR (by omega) (by omega)
 have e2:=qfs (k:=.u64) (a:=((i+j:Nat):Int)) (m:=1) (by decide)
 rw[show ((1:Nat):Int)=1 from rfl,show (2:Int)^1=2 from rfl] at e2
 rw[e1,e2]
 have e3:((i+j:Nat):Int)/2=(((i+j)/2:Nat):Int):=by omega
 rw[e3]
 exact kE (by omega) (by omega)
theorem qiO {F:Nat}{l:qyo}{v:Int}(hl:l.Pairwise (·<·))(hm:l.length≤100000):∀ (k i j:Nat),j<k+i→i≤j→j≤l.length→(∀ z∈l.take i,z<v)→(∀ z∈l.drop j,v≤z) →
  ∃ p,qz F l v k ((i:Int),(j:Int))=some (p,decide (v∈l))
 | 0,_,_,_,_,_,_,_=>by omega
 | k+1,i,j,h,hij,hj,h1,h2=>by
  show ∃ p,qV F l v (qz F l v k) (i:Int) (j:Int)=_
  unfold qV
  by_cases hlt:i<j
  ·have hh:(i+j)/2<l.length:=by omega
   rw[if_pos (by simp;omega)]
   unfold lett
   rw[qs3 (by omega)]
   simp only
   rw[qG,qvL hh]
   simp only[qvK]
   rw[qs7]
   simp only[qvK]
   by_cases hc:l[(i+j)/2]<v
   ·rw[decide_eq_true hc,if_pos rfl,qC (by omega)]
    refine qiO hl hm k ((i+j)/2+1) j (by omega) (by omega) hj (fun z hz=>?_) h2
    obtain ⟨q,hq⟩:=qxE hz
    have hq1:=(qvW.1 hq).1
    rw[qwb] at hq1
    rw[List.getElem?_take_of_lt (by omega),qvL (by omega)] at hq
    simp only[qvY] at hq
    subst hq
    by_cases e:q=(i+j)/2
    ·subst e;exact hc
    ·have:=qwX.1 hl q ((i+j)/2) (by omega) hh (by omega)
     omega
   ·rw[decide_eq_false hc,if_neg (by simp)]
    refine qiO hl hm k i ((i+j)/2) (by omega) (by omega) (by omega) h1 (fun z hz=>?_)
    obtain ⟨q,hq⟩:=qxE hz
    rw[qwP] at hq
    have hq1:=(qvW.1 hq).1
    rw[qvL hq1] at hq
    simp only[qvY] at hq
    subst hq
    by_cases e:q=0
    ·subst e;simp only[qwY];omega
    ·have:=qwX.1 hl ((i+j)/2) ((i+j)/2+q) hh (by omega) (by omega)
     omega
  ·obtain rfl:i=j:=by omega
   rw[if_neg (by simp)]
   unfold qY
   by_cases hi:i<l.length
   ·have hd:l.drop i=l[i]::l.drop (i+1):=qvV hi
    have hmem:v∈l↔l[i]=v:=by
     constructor
     ·intro hv
      rw[← qwD i l] at hv
      rcases qvQ.1 hv with hv | hv
      ·have:=h1 v hv;omega
      ·rw[hd] at hv
       rcases qvR.1 hv with hv | hv
       ·exact hv.symm
       ·have hp:=hl.sublist (List.drop_sublist i l)
        rw[hd] at hp
        have:=(qwM.1 hp).1 v hv
        have:=h2 l[i] (by rw[hd];exact qwf ..)
        omega
     ·intro hv;rw[← hv];exact qwe hi
    rw[if_pos (by simp;omega),qG,qvL hi]
    simp only[qvK]
    by_cases he:l[i]=v
    ·rw[if_pos (by simpa using he),decide_eq_true (hmem.2 he)]
     exact ⟨_,rfl⟩
    ·rw[if_neg (by simpa using he),decide_eq_false (fun h=>he (hmem.1 h))]
     unfold kW
     simp only[qvK,bne_self_eq_false,qv0,if_false]
     exact ⟨_,rfl⟩
   ·rw[if_neg (by simp;omega)]
    have hn:v∉l:=by
     intro hv
     rw[List.take_of_length_le (by omega)] at h1
     have:=h1 v hv
     omega
    rw[decide_eq_false hn]
    exact ⟨_,rfl⟩
theorem qkb {F:Nat}(hF:200000≤F){l:qyo}{v:Int}(hl:l.Pairwise (·<·))(hm:l.length≤100000):∃ p,qA F l v=some (p,decide (v∈l)):=by
 unfold qA
 exact qiO hl hm F 0 l.length (by omega) (by omega) (qv3 _) (by simp) (by simp)
def tb:Bool→Int→List Bool→qyo
 | _,_,[]=>[]
 | c,m,b::bs=>if b != c then m::tb b 1 bs else tb c (m+1) bs
theorem qgQ (c:Bool)(m:Int)(bs:List Bool):tb c m (c::bs)=tb c (m+1) bs:=by
 show (if c != c then _ else _)=_
 rw[if_neg (by simp)]
theorem qgR {c b:Bool}(h:b≠c)(m:Int)(bs:List Bool):tb c m (b::bs)=m::tb b 1 bs:=by
 show (if b != c then _ else _)=_
 rw[if_pos (by simpa using h)]
theorem qn1:∀ (c:Bool) (m:Int) (bs:List Bool),(tb c m bs).length≤bs.length
 | _,_,[]=>qv3 _
 | c,m,b::bs=>by
  by_cases h:b=c
  ·subst h
   rw[qgQ]
   have:=qn1 b (m+1) bs
   rw[qwa];omega
  ·rw[qgR h,qwa,qwa]
   have:=qn1 b 1 bs
   omega
def hasB (l:qyo)(x:Int):Bool:=decide (x∈l)
def tbs (fr0 l:qyo):qyo:=tb true 0 (fr0.map (hasB l))
def rst (fr0 l:qyo):qyo:=l.filter fun x=>!hasB fr0 x
theorem qu6 {F:Nat}{o:qyo}{c b:Bool}{m:Int}(ho:o.length≤1000000)(hm:0≤m∧m≤1000000):jn F o c m b=some (if b != c then (o++[m],b,1) else (o,c,m+1)):=by
 unfold jn
 by_cases h:b=c
 ·subst h
  rw[if_neg (by simp),if_neg (by simp)]
  unfold yU
  rw[qD (by omega) (by omega)]
 ·rw[if_pos (by simpa using h),if_pos (by simpa using h),yb (by simp;omega)]
  rfl
theorem qhc {F:Nat}(hF:200000≤F){fr0 l o:qyo}(hf:fr0.Pairwise (·<·))(hfm:fr0.length≤300)(hm:l.length≤300):∀ (k i:Nat) (r:qyo),l.length<k+i→i≤l.length→r.length≤i →
  yq F fr0 l o k (r,(i:Int))=some (o,r++rst fr0 (l.drop i))
 | 0,_,_,_,_,_=>by omega
 | k+1,i,r,h,hi,hr=>by
  show qbz F fr0 l o (yq F fr0 l o k) r (i:Int)=_
  unfold qbz
  by_cases hlt:i<l.length
  ·obtain ⟨p,hp⟩:=qkb hF (v:=l[i]) hf (by omega)
   rw[if_pos (by simp;omega),qG,qvL hlt,qvV hlt]
   simp only[qvK]
   rw[hp]
   simp only[qvK]
   unfold qbB rst
   rw[qw0,qC (by omega)]
   by_cases hc:l[i]∈fr0
   ·rw[if_neg (by simp[hc]),if_neg (by simp[hasB,hc])]
    exact qhc hF hf hfm hm k (i+1) r (by omega) (by omega) (by omega)
   ·rw[if_pos (by simp[hc]),if_pos (by simp[hasB,hc]),yb (by simp;omega)]
    simp only[qvK]
    rw[qhc hF hf hfm hm k (i+1) _ (by omega) (by omega) (by simp;omega),qvM]
    rfl
  ·rw[if_neg (by simp;omega),qv1 (by omega)]
   simp[qdT,rst]
theorem qlg {F:Nat}(hF:200000≤F){fr0 l:qyo}(hf:fr0.Pairwise (·<·))(hl:l.Pairwise (·<·))(hfm:fr0.length≤300)(hm:l.length≤300):∀ (k i:Nat) (o:qyo) (c:Bool) (m:Int),fr0.length<k+i→i≤fr0.length→o.length≤i→0≤m∧m≤i →
  vb F fr0 l k ((i:Int),o,c,m)=some (o++tb c m ((fr0.drop i).map (hasB l)),rst fr0 l)
 | 0,_,_,_,_,_,_,_,_=>by omega
 | k+1,i,o,c,m,h,hi,ho,hmm=>by
  show qbA F fr0 l (vb F fr0 l k) (i:Int) o c m=_
  unfold qbA
  by_cases hlt:i<fr0.length
  ·obtain ⟨p,hp⟩:=qkb hF (v:=fr0[i]) hl (by omega)
   rw[if_pos (by simp;omega),qG,qvL hlt,qvV hlt,List.map_cons]
   simp only[qvK]
   rw[hp]
   simp only[qvK]
   rw[qu6 (by omega) (by omega)]
   simp only[qvK]
   rw[qC (by omega)]
   have hb:hasB l fr0[i]=decide (fr0[i]∈l):=rfl
   rw[← hb]
   by_cases hc:hasB l fr0[i]=c
   ·rw[if_neg (by simp[hc])]
    simp only
    rw[qlg hF hf hl hfm hm k (i+1) o c (m+1) (by omega) (by omega) (by omega) (by omega),hc,qgQ]
   ·rw[if_pos (by simpa using hc)]
    simp only
    rw[qlg hF hf hl hfm hm k (i+1) _ _ 1 (by omega) (by omega) (by simp;omega) (by omega),qgR hc,qvM]
    rfl
  ·rw[if_neg (by simp;omega),qv1 (by omega)]
   unfold qdS
   have:=qhc hF (o:=o) hf hfm hm F 0 [] (by omega) (by omega) (by simp)
   rw[qv5,qv8] at this
   rw[show ((0:Nat):Int)=0 from rfl] at this
   rw[this]
   simp[tb]
def blE (fr0 l:qyo):Int:=if gkc fr0≠0 then gkc fr0 else gkc l
def bls (fr0 l:qyo):qyo×qyo×Int:=if blE fr0 l≠0 then ([],[],blE fr0 l) else (tbs fr0 l,rst fr0 l,0)
theorem qqv {fr0 l:qyo}:blE fr0 l=0↔(fr0.length≤300∧Ris (-1) fr0)∧l.length≤300∧Ris (-1) l:=by
 unfold blE
 rw[← zD,← zD]
 by_cases h:gkc fr0=0
 ·rw[if_neg (by simp[h])];simp[h]
 ·rw[if_pos h];simp[h]
theorem quC {fr0 l:qyo}(h:blE fr0 l=0):bls fr0 l=(tbs fr0 l,rst fr0 l,0):=by unfold bls;rw[if_neg (by simp[h])]
theorem qsM {fr0 l:qyo}(h:blE fr0 l≠0):bls fr0 l=([],[],blE fr0 l):=by unfold bls;rw[if_pos h]
theorem qgZ {F:Nat}(hF:200000≤F){fr0 l:qyo}:vV F fr0 l=some (bls fr0 l):=by
 unfold vV
 rw[jT (by omega),jT (by omega)]
 simp only[qvK]
 have hj:vu F fr0 l (blE fr0 l)=some (bls fr0 l):=by
  unfold vu
  by_cases h:blE fr0 l=0
  ·obtain ⟨⟨h1,h2⟩,h3,h4⟩:=qqv.1 h
   have:=qlg hF (yP h2).1 (yP h4).1 h1 h3 F 0 [] true 0 (by omega) (by omega) (by simp) (by omega)
   rw[qv5,qv8] at this
   rw[if_neg (by simp[h]),quC h]
   unfold qbN
   rw[show ((0:Nat):Int)=0 from rfl] at this
   rw[this]
   rfl
  ·rw[if_pos (by simpa using h),qsM h]
 by_cases h:gkc fr0=0
 ·have e:blE fr0 l=gkc l:=by unfold blE;rw[if_neg (by simp[h])]
  rw[if_pos (by simpa using h),← e];exact hj
 ·have e:blE fr0 l=gkc fr0:=by unfold blE;rw[if_pos h]
  rw[if_neg (by simpa using h)]
  rw[e] at hj;exact hj
def okB:Bool→qyo→Bool
 | _,[]=>true
 | f,n::bs=>decide (0≤n) && (f || decide (1≤n)) && okB false bs
def bsum:qyo→Int
 | []=>0
 | n::bs=>n+bsum bs
theorem qfk (f:Bool)(n:Int)(bs:qyo):okB f (n::bs)=(decide (0≤n) && (f || decide (1≤n)) && okB false bs):=rfl
theorem qla:∀ {f:Bool} {bs:qyo},okB f bs=true→(∀ n∈bs,0≤n)∧0≤bsum bs
 | _,[],_=>by simp[bsum]
 | f,n::bs,h=>by
  unfold okB at h
  simp only[qwq,decide_eq_true_eq] at h
  obtain ⟨h1,h2⟩:=qla h.2
  refine ⟨fun m hm=>?_,?_⟩
  ·rcases qvR.1 hm with rfl | hm
   ·exact h.1.1
   ·exact h1 m hm
  ·unfold bsum;have:=h.1.1;omega
def ccE (L:Int)(f:Bool)(t:Int)(bs:qyo):Int:=if okB f bs then (if L<t+bsum bs then 8 else 0) else 3
theorem qsR (L:Int)(f:Bool)(t:Int):ccE L f t []=if L<t then 8 else 0:=by simp[ccE,okB,bsum]
theorem qog {L:Int}{f:Bool}{t n:Int}{bs:qyo}(h:n<0∨(n<1∧f=false)):ccE L f t (n::bs)=3:=by
 unfold ccE okB
 rw[if_neg]
 simp only[qwq,qw3,decide_eq_true_eq]
 rcases h with h | ⟨h,rfl⟩
 ·omega
 ·simp;omega
theorem quI {L:Int}{f:Bool}{t n:Int}{bs:qyo}(h:¬ (n<0∨(n<1∧f=false))):ccE L f t (n::bs)=ccE L false (t+n) bs:=by
 have e:okB f (n::bs)=okB false bs:=by
  rw[qfk]
  cases f
  ·have h1:0≤n:=by omega
   have h2:1≤n:=by
    rcases Int.lt_or_le n 1 with h3 | h3
    ·exact absurd (.inr ⟨h3,rfl⟩) h
    ·exact h3
   simp[h1,h2]
  ·have h1:0≤n:=by omega
   simp[h1]
 unfold ccE
 rw[e]
 have:t+bsum (n::bs)=t+n+bsum bs:=by show t+(n+bsum bs)=_;omega
 rw[this]
theorem qkO {L:Int}{f:Bool}{t t':Int}{bs:qyo}(h:L<t)(h':L<t'):ccE L f t bs=ccE L f t' bs:=by
 unfold ccE
 by_cases ho:okB f bs=true
 ·have:=(qla ho).2
  rw[if_pos ho,if_pos ho,if_pos (by omega),if_pos (by omega)]
 ·rw[if_neg ho,if_neg ho]
theorem qmu {F:Nat}{bs:qyo}{L:Nat}(hL:L≤300)(hb:bs.length≤301):∀ (k i:Nat) (s:Int),bs.length<k+i→i≤bs.length→0≤s∧s≤L+1 →
  kv F bs (L:Int) k (s,(i:Int))=some (ccE L (decide (i=0)) s (bs.drop i))
 | 0,_,_,_,_,_=>by omega
 | k+1,i,s,h,hi,hs=>by
  show qal F bs (L:Int) (kv F bs (L:Int) k) s (i:Int)=_
  unfold qal
  by_cases hlt:i<bs.length
  ·rw[if_pos (by simp;omega),qG,qvL hlt,qvV hlt]
   simp only[qvK]
   have hrec:=fun s hs=>qmu (F:=F) hL hb k (i+1) s (by omega) (by omega) hs
   rw[decide_eq_false (show ¬ i+1=0 by omega)] at hrec
   generalize bs[i]=n at hrec ⊢
   generalize bs.drop (i+1)=R at hrec ⊢
   unfold qam
   by_cases h1:n<0
   ·rw[if_pos (by simpa using h1),if_pos rfl,qog (.inl h1)]
   ·rw[if_neg (by simpa using h1)]
    by_cases h2:n<1∧0<i
    ·rw[if_pos (by simp;omega),qog (.inr ⟨h2.1,decide_eq_false (by omega)⟩)]
    ·have h3:¬ (n<0∨(n<1∧decide (i=0)=false)):=by
      rintro (h | ⟨h,hd⟩)
      ·exact h1 h
      ·have:=of_decide_eq_false hd;omega
     rw[if_neg (by simp;omega),quI h3]
     unfold lett
     have em:imin n (iadd .i64 (L:Int) 1)=if n≤L then n else (L:Int)+1:=by
      rw[qD (by omega) (by omega)]
      unfold imin
      by_cases hn:n≤L
      ·rw[if_pos hn,if_neg (by omega)]
      ·rw[if_neg hn]
       by_cases hn2:(L:Int)+1<n
       ·rw[if_pos hn2]
       ·rw[if_neg hn2];omega
     rw[em,qC (by omega)]
     by_cases hn:n≤L
     ·rw[if_pos hn,qD (a:=s) (by omega) (by omega),qD (by omega) (by omega)]
      unfold imin
      by_cases hc:(L:Int)+1<s+n
      ·rw[if_pos hc]
       simp only
       rw[hrec _ (by omega),qkO (t':=s+n) (by omega) (by omega)]
      ·rw[if_neg hc]
       simp only
       rw[hrec _ (by omega)]
     ·rw[if_neg hn,qD (a:=s) (by omega) (by omega),qD (by omega) (by omega)]
      unfold imin
      by_cases hc:(L:Int)+1<s+(L+1)
      ·rw[if_pos hc]
       simp only
       rw[hrec _ (by omega),qkO (t':=s+n) (by omega) (by omega)]
      ·rw[if_neg hc]
       simp only
       rw[hrec _ (by omega),qkO (t':=s+n) (by omega) (by omega)]
  ·rw[if_neg (by simp;omega),qv1 (by omega),qsR]
   unfold qcb
   by_cases h8:(L:Int)<s
   ·rw[if_pos (by simpa using h8),if_pos h8]
   ·rw[if_neg (by simpa using h8),if_neg h8]
def bkE (L:Nat)(bs:qyo):Int:=if L+1<bs.length then 2 else ccE L true 0 bs
theorem qpS {F:Nat}(hF:200000≤F){bs:qyo}{L:Nat}(hL:L≤300):qdf F bs (L:Int)=some (bkE L bs):=by
 unfold qdf bkE
 rw[qC (by omega)]
 by_cases h:L+1<bs.length
 ·rw[if_pos (by simp;omega),if_pos h]
 ·rw[if_neg (by simp;omega),if_neg h]
  exact qmu hL (by omega) F 0 0 (by omega) (by omega) (by omega)
theorem quA {L:Nat}{bs:qyo}:bkE L bs=0↔bs.length≤L+1∧okB true bs=true∧bsum bs≤L:=by
 unfold bkE ccE
 by_cases h:L+1<bs.length
 ·rw[if_pos h];simp;omega
 ·rw[if_neg h]
  by_cases h2:okB true bs=true
  ·rw[if_pos h2]
   by_cases h3:(L:Int)<0+bsum bs
   ·rw[if_pos h3];simp;omega
   ·rw[if_neg h3];simp[h2];omega
  ·rw[if_neg h2];simp[h2]
def cp:qyo→qyo→Bool→qyo
 | l,[],c=>if c then l else []
 | l,n::bs,c=>(if c then l.take n.toNat else [])++cp (l.drop n.toNat) bs (!c)
theorem qkS:∀ (l bs:qyo) (c:Bool),(cp l bs c).Sublist l
 | l,[],c=>by unfold cp;split;exact qv9 _;exact List.nil_sublist _
 | l,n::bs,c=>by
  unfold cp
  have h:=qkS (l.drop n.toNat) bs (!c)
  split
  ·have:=(qv9 (l.take n.toNat)).append h
   rwa [qwD] at this
  ·rw[qv8];exact h.trans (List.drop_sublist _ _)
theorem ql5 {F:Nat}{bs:qyo}(hbm:bs.length≤1000):∀ (k i:Nat) (l o:qyo) (c:Bool),bs.length<k+i→i≤bs.length→l.length≤300→o.length≤300*i→(∀ n∈bs.drop i,0≤n)→bsum (bs.drop i)≤l.length →
  kf F bs k (l,o,c,(i:Int))=some (o++cp l (bs.drop i) c)
 | 0,_,_,_,_,_,_,_,_,_,_=>by omega
 | k+1,i,l,o,c,h,hi,hl,ho,hn,hs=>by
  show jl F bs (kf F bs k) l o c (i:Int)=_
  unfold jl
  by_cases hlt:i<bs.length
  ·rw[qvV hlt] at hn hs ⊢
   have hrec:=fun l o c h1 h2 h3=>ql5 (F:=F) hbm k (i+1) l o c (by omega) (by omega) h1 h2 (fun n hn'=>hn n (qv7 _ hn')) h3
   have hg:idx bs (i:Int)=some bs[i]:=by rw[qG,qvL hlt]
   rw[if_pos (by simp;omega),hg]
   have h0:=hn bs[i] (qwf ..)
   have hsum:0≤bsum (bs.drop (i+1)):=by
    have:∀ (R:qyo),(∀ n∈R,0≤n)→0≤bsum R:=by
     intro R
     induction R with
     | nil=>intro _;simp[bsum]
     | cons x R ih=>intro h;unfold bsum;have:=h x (by simp);have:=ih (fun n hn=>h n (by simp[hn]));omega
    exact this _ fun n hn'=>hn n (qv7 _ hn')
   unfold bsum at hs
   generalize bs[i]=n at hrec h0 hs ⊢
   obtain ⟨m,rfl⟩:=qvS h0
   have hml:m≤l.length:=by omega
   have s1:=qph (l:=l) (i:=0) (j:=m) (by omega) hml
   have s2:=qph (l:=l) (i:=m) (j:=l.length) hml (qv3 _)
   rw[qyc] at s2
   rw[show ((0:Nat):Int)=0 from rfl,qv5] at s1
   simp only[qvK]
   unfold jm cp
   simp only[qvP]
   cases c
   ·rw[if_neg (by simp),if_neg (by simp),s2,qC (by omega)]
    simp only[qvK,qv8]
    exact hrec _ _ _ (by simp;omega) (by omega) (by rw[qws];omega)
   ·rw[if_pos rfl,if_pos rfl,s1]
    simp only[qvK]
    rw[yb (by simp;omega),s2,qC (by omega)]
    simp only[qvK]
    rw[hrec _ _ _ (by simp;omega) (by simp;omega) (by rw[qws];omega),qvM]
  ·rw[if_neg (by simp;omega),qv1 (by omega)]
   unfold qcc qan cp
   cases c
   ·simp
   ·rw[if_pos rfl,yb (by omega)];simp
def cpE (l bs:qyo):Int:=if gkc l≠0 then gkc l else bkE l.length bs
def cpy (l bs:qyo):qyo×Int:=if cpE l bs≠0 then ([],cpE l bs) else (cp l bs true,0)
theorem qkR {l bs:qyo}:cpE l bs=0↔(l.length≤300∧Ris (-1) l)∧bs.length≤l.length+1∧okB true bs=true∧bsum bs≤l.length:=by
 unfold cpE
 rw[← zD,← quA]
 by_cases h:gkc l=0
 ·rw[if_neg (by simp[h])];simp[h]
 ·rw[if_pos h];simp[h]
theorem qkU {l bs:qyo}(h:cpE l bs=0):cpy l bs=(cp l bs true,0):=by unfold cpy;rw[if_neg (by simp[h])]
theorem qkT {l bs:qyo}(h:cpE l bs≠0):cpy l bs=([],cpE l bs):=by unfold cpy;rw[if_pos h]
theorem qs0 {l:qyo}(h:gkc l=0):l.length≤300:=(zD.1 h).1
theorem qgr {F:Nat}(hF:200000≤F){l bs:qyo}:vv F l bs=some (cpy l bs):=by
 unfold vv
 rw[jT (by omega)]
 simp only[qvK]
 have hj:jB F l bs (cpE l bs)=some (cpy l bs):=by
  unfold jB
  by_cases h:cpE l bs=0
  ·obtain ⟨⟨h1,h2⟩,h3,h4,h5⟩:=qkR.1 h
   have:=ql5 (F:=F) (bs:=bs) (by omega) F 0 l [] true (by omega) (by omega) h1 (by simp) (by rw[qv5];exact (qla h4).1) (by rw[qv5];exact h5)
   rw[qv5,qv8,show ((0:Nat):Int)=0 from rfl] at this
   rw[if_neg (by simp[h]),qkU h]
   unfold qdU
   rw[this];rfl
  ·rw[if_pos (by simpa using h),qkT h]
 by_cases h:gkc l=0
 ·have e:cpE l bs=bkE l.length bs:=by unfold cpE;rw[if_neg (by simp[h])]
  rw[if_pos (by simpa using h),qpS hF (qs0 h)]
  simp only[qvK]
  rw[← e];exact hj
 ·have e:cpE l bs=gkc l:=by unfold cpE;rw[if_pos h]
  rw[if_neg (by simpa using h)]
  rw[e] at hj;exact hj
def pjn (l bs rest:qyo):qyo×Int:=if cpE l bs≠0 then ([],cpE l bs) else if gkc rest≠0 then ([],gkc rest) else mrg (cp l bs true) rest
theorem qvw {l bs rest:qyo}(h:cpE l bs≠0):pjn l bs rest=([],cpE l bs):=by unfold pjn;rw[if_pos h]
theorem qvx {l bs rest:qyo}(h:cpE l bs=0)(h2:gkc rest≠0):pjn l bs rest=([],gkc rest):=by unfold pjn;rw[if_neg (by simp[h]),if_pos h2]
theorem quh {l bs rest:qyo}(h:cpE l bs=0)(h2:gkc rest=0):pjn l bs rest=mrg (cp l bs true) rest:=by unfold pjn;rw[if_neg (by simp[h]),if_neg (by simp[h2])]
theorem qj4 {F:Nat}(hF:200000≤F){l bs rest:qyo}:qca F l bs rest=some (pjn l bs rest):=by
 unfold qca
 rw[qgr hF,jT (by omega)]
 simp only[qvK]
 by_cases h:cpE l bs=0
 ·rw[qkU h,if_pos (by simp)]
  unfold jC
  by_cases h2:gkc rest=0
  ·rw[quh h h2,if_neg (by simp[h2])]
   obtain ⟨⟨k1,k2⟩,_⟩:=qkR.1 h
   have k4:=zD.1 h2
   have k5:=(qkS l bs true).length_le
   exact qjW (by omega) ((yP k2).1.sublist (qkS l bs true)) (yP k4.2).1 (by show (cp l bs true).length+rest.length≤_;omega)
  ·rw[qvx h h2,if_pos (by simpa using h2)]
 ·rw[qkT h,qvw h,if_neg (by simpa using h)]
  unfold jC
  rw[if_pos (by simpa using h)]
theorem qo9:∀ {e:Int} {R:List (Int×Int)},Sep e R→∀ r∈R,e<r.1
 | _,[],_=>by simp
 | e,r::R,h=>by
  intro r' hr
  rcases qvR.1 hr with rfl | hr
  ·exact h.1
  ·have:=qo9 h.2.2 r' hr;have:=h.1;have:=h.2.1;omega
def Mx (l:qyo)(r:Int×Int):Prop:=1≤r.2∧r.1-1∉l∧r.1+r.2∉l∧∀ z,r.1≤z→z<r.1+r.2→z∈l
theorem qrY:∀ {e:Int} {R:List (Int×Int)},Sep e R→∀ r∈R,Mx (flat R) r
 | _,[],_=>by simp
 | e,r::R,h=>by
  intro r' hr
  have h1:=h.2.1
  have hlt:=qnH h.2.2
  rcases qvR.1 hr with rfl | hr
  ·refine ⟨h1,fun hm=>?_,fun hm=>?_,fun z h2 h3=>?_⟩
   ·rw[kn] at hm
    rcases qvQ.1 hm with hm | hm
    ·have:=qct.1 hm;omega
    ·have:=hlt _ hm;omega
   ·rw[kn] at hm
    rcases qvQ.1 hm with hm | hm
    ·have:=qct.1 hm;omega
    ·have:=hlt _ hm;omega
   ·rw[kn]
    exact qvQ.2 (.inl (qct.2 (by omega)))
  ·obtain ⟨i1,i2,i3,i4⟩:=qrY h.2.2 r' hr
   have hf:=qo9 h.2.2 r' hr
   refine ⟨i1,fun hm=>?_,fun hm=>?_,fun z h2 h3=>?_⟩
   ·rw[kn] at hm
    rcases qvQ.1 hm with hm | hm
    ·have:=qct.1 hm;omega
    ·exact i2 hm
   ·rw[kn] at hm
    rcases qvQ.1 hm with hm | hm
    ·have:=qct.1 hm;omega
    ·exact i3 hm
   ·rw[kn]
    exact qvQ.2 (.inr (i4 z h2 h3))
theorem qkk {F:Nat}{x a b:Int}:qbi F x a b=some (decide (a≤x∧x≤b)):=by
 unfold qbi
 congr 1
 by_cases h:a≤x <;> by_cases h2:x≤b <;> simp[h,h2]
def RunOk (r:Int×Int):Prop:=(0≤r.1∧r.1≤1048576)∧(1≤r.2∧r.2≤300)∧r.1+r.2-1≤1048576
instance runOkDec (r:Int×Int):Decidable (RunOk r):=inferInstanceAs (Decidable (_∧_∧_))
def sk:Int→List (Int×Int)→Int
 | _,[]=>0
 | e,r::R=>if RunOk r then (if r.1<e+2 then 4 else sk (r.1+r.2-1) R) else 3
theorem qr5:∀ {e:Int} {R:List (Int×Int)},sk e R=0↔(∀ r∈R,RunOk r)∧Sep (e+1) R
 | _,[]=>by simp[sk,Sep]
 | e,r::R=>by
  unfold sk Sep
  by_cases h:RunOk r
  ·rw[if_pos h]
   by_cases h2:r.1<e+2
   ·rw[if_pos h2];simp;omega
   ·rw[if_neg h2,qr5]
    rw[show r.1+r.2-1+1=r.1+r.2 from by omega]
    have h3:1≤r.2:=h.2.1.1
    constructor
    ·rintro ⟨h4,h5⟩
     exact ⟨fun r' hr=>by rcases qvR.1 hr with rfl | hr;exact h;exact h4 r' hr,by omega,h3,h5⟩
    ·rintro ⟨h4,_,_,h5⟩
     exact ⟨fun r' hr=>h4 r' (by simp[hr]),h5⟩
  ·rw[if_neg h]
   constructor
   ·intro h3;simp at h3
   ·rintro ⟨h4,_⟩;exact absurd (h4 r (by simp)) h
theorem qg6:∀ {R:List (Int×Int)},(∀ r∈R,RunOk r)→(flat R).length≤300*R.length
 | [],_=>by simp[flat]
 | r::R,h=>by
  have h1:=qg6 (R:=R) fun r hr=>h r (by simp[hr])
  have h2:=h r (by simp)
  unfold RunOk at h2
  rw[kn,qvN,qdD,qwa]
  omega
theorem qkc {F:Nat}{rec32:(qyo×Int)→Option (qyo×Int)}{i:Int}{r:Int×Int}{acc:qyo}(hr:RunOk r)(ha:acc.length≤1000000):∀ (k j:Nat),r.2.toNat<k+j→j≤r.2.toNat →
  yk F rec32 i r k (acc++rng r.1 j,(j:Int))=qaw F rec32 i (acc++rng r.1 r.2.toNat)
 | 0,_,_,_=>by omega
 | k+1,j,h,hj=>by
  unfold RunOk at hr
  show qat F rec32 i r (yk F rec32 i r k) (acc++rng r.1 j) (j:Int)=_
  unfold qat
  by_cases hlt:j<r.2.toNat
  ·rw[if_pos (by simp;omega),qD (by omega) (by omega),yb (by simp[qdD];omega),qC (by omega)]
   simp only[qvK]
   rw[qvM,← qiE]
   exact qkc hr ha k (j+1) (by omega) (by omega)
  ·rw[if_neg (by simp;omega)]
   obtain rfl:j=r.2.toNat:=by omega
   rfl
theorem qpJ {R:List (Int×Int)}{i:Nat}(h:i<R.length):flat (R.take (i+1))=flat (R.take i)++rng R[i].1 R[i].2.toNat:=by
 rw[qxA,qvL h,qic]
 simp[flat]
theorem qiS {F:Nat}(hF:1000<F){R:List (Int×Int)}(hR:∀ r∈R,RunOk r)(hl:R.length≤300):∀ (k i:Nat),R.length<k+i→i≤R.length →
  zk F R k (flat (R.take i),(i:Int))=some (flat R,0)
 | 0,_,_,_=>by omega
 | k+1,i,h,hi=>by
  show qas F R (zk F R k) (flat (R.take i)) (i:Int)=_
  unfold qas
  by_cases hlt:i<R.length
  ·have hok:=hR _ (qwe hlt)
   have hsz:=qg6 (R:=R.take i) fun r hr=>hR r (qxn hr)
   rw[qwb] at hsz
   have hsp:=qkc (F:=F) (rec32:=zk F R k) (i:=(i:Int)) (acc:=flat (R.take i)) hok (by omega) F 0 (by unfold RunOk at hok;omega) (by omega)
   rw[rng,qwL,show ((0:Nat):Int)=0 from rfl] at hsp
   rw[if_pos (by simp;omega),qG,qvL hlt]
   simp only[qvK]
   rw[hsp,← qpJ hlt]
   unfold qaw
   rw[qC (by omega)]
   exact qiS hF hR hl k (i+1) (by omega) (by omega)
  ·rw[if_neg (by simp;omega)]
   obtain rfl:i=R.length:=by omega
   rw[qyc];rfl
theorem qim {a b:Int}(h1:-1000000000≤a∧a≤1000000000)(h2:-1000000000≤b∧b≤1000000000):isub .i64 (iadd .i64 a b) 1=a+b-1:=by
 rw[qD (by omega) (by omega),zB (by omega) (by omega)]
theorem qiR {F:Nat}{R:List (Int×Int)}(hl:R.length≤300):∀ (k i:Nat) (e:Int),R.length<k+i→i≤R.length→-2≤e∧e≤1048576 →
  kx F R k (e,(i:Int))=if sk e (R.drop i)≠0 then some ([],sk e (R.drop i)) else qav F R
 | 0,_,_,_,_,_=>by omega
 | k+1,i,e,h,hi,he=>by
  show qau F R (kx F R k) e (i:Int)=_
  unfold qau
  by_cases hlt:i<R.length
  ·rw[if_pos (by simp;omega),qG,qvL hlt,qvV hlt,sk]
   generalize R[i]=r
   simp only[qvK]
   rw[qkk,qkk]
   simp only[qvK]
   by_cases h1:0≤r.1∧r.1≤1048576
   ·rw[decide_eq_true h1,if_neg (by simp)]
    by_cases h2:1≤r.2∧r.2≤300
    ·rw[decide_eq_true h2,if_neg (by simp),qim (by omega) (by omega)]
     unfold vx
     by_cases h3:r.1+r.2-1≤1048576
     ·have hok:RunOk r:=⟨h1,h2,h3⟩
      rw[if_neg (by simp;omega),if_pos hok,qD (by omega) (by omega)]
      by_cases h4:r.1<e+2
      ·rw[if_pos (by simpa using h4),if_pos h4,if_pos (by decide)]
      ·rw[if_neg (by simpa using h4),if_neg h4,qim (by omega) (by omega),qC (by omega)]
       exact qiR hl k (i+1) _ (by omega) (by omega) (by omega)
     ·have hok:¬ RunOk r:=fun h=>h3 h.2.2
      rw[if_pos (by simp;omega),if_neg hok,if_pos (by decide)]
    ·have hok:¬ RunOk r:=fun h=>h2 h.2.1
     rw[decide_eq_false h2,if_pos (by simp),if_neg hok,if_pos (by decide)]
     rfl
   ·have hok:¬ RunOk r:=fun h=>h1 h.1
    rw[decide_eq_false h1,if_pos (by simp),if_neg hok,if_pos (by decide)]
    rfl
  ·rw[if_neg (by simp;omega),qv1 (by omega),sk,if_neg (by simp)]
def skc (R:List (Int×Int)):Int:=if 300<R.length then 2 else sk (-2) R
def spd (R:List (Int×Int)):qyo×Int:=if skc R≠0 then ([],skc R) else (flat R,0)
theorem qnL {R:List (Int×Int)}:skc R=0↔R.length≤300∧(∀ r∈R,RunOk r)∧Sep (-1) R:=by
 unfold skc
 by_cases h:300<R.length
 ·rw[if_pos h];simp;omega
 ·rw[if_neg h,qr5]
  simp
  omega
theorem qp4 {F:Nat}(hF:20000≤F){R:List (Int×Int)}:qdj F R=some (spd R):=by
 unfold qdj spd
 by_cases h:300<R.length
 ·have e:skc R=2:=by unfold skc;rw[if_pos h]
  rw[if_pos (by simp;omega),e,if_pos (by decide)]
 ·have e:skc R=sk (-2) R:=by unfold skc;rw[if_neg h]
  have hc:=qiR (F:=F) (R:=R) (by omega) F 0 (-2) (by omega) (by omega) (by omega)
  rw[qv5] at hc
  rw[if_neg (by simp;omega),e]
  refine hc.trans ?_
  by_cases h2:sk (-2) R=0
  ·rw[if_neg (by simp[h2]),if_neg (by simp[h2])]
   unfold qav
   have hok:=qnL.1 (e.trans h2)
   exact qiS (by omega) hok.2.1 hok.1 F 0 (by omega) (by omega)
  ·rw[if_pos h2,if_pos h2]
def rm (R:List (Int×Int))(rest:qyo):qyo×Int:=if skc R≠0 then ([],skc R) else if gkc rest≠0 then ([],gkc rest) else mrg (flat R) rest
theorem qvB {R:List (Int×Int)}{rest:qyo}(h:skc R≠0):rm R rest=([],skc R):=by unfold rm;rw[if_pos h]
theorem qvI {R:List (Int×Int)}{rest:qyo}(h:skc R=0)(h2:gkc rest≠0):rm R rest=([],gkc rest):=by unfold rm;rw[if_neg (by simp[h]),if_pos h2]
theorem qu5 {R:List (Int×Int)}{rest:qyo}(h:skc R=0)(h2:gkc rest=0):rm R rest=mrg (flat R) rest:=by unfold rm;rw[if_neg (by simp[h]),if_neg (by simp[h2])]
theorem qu8 {R:List (Int×Int)}(h:skc R=0):spd R=(flat R,0):=by unfold spd;rw[if_neg (by simp[h])]
theorem qtA {R:List (Int×Int)}(h:skc R≠0):spd R=([],skc R):=by unfold spd;rw[if_pos h]
theorem qey {F:Nat}(hF:20000≤F){R:List (Int×Int)}{rest:qyo}:yB F R rest=some (rm R rest):=by
 unfold yB
 rw[qp4 hF,jT hF]
 simp only[qvK]
 by_cases h:skc R=0
 ·rw[qu8 h,if_pos (by simp)]
  unfold jD
  by_cases h2:gkc rest=0
  ·rw[qu5 h h2,if_neg (by simp[h2])]
   obtain ⟨k1,k2,k3⟩:=qnL.1 h
   have k4:=zD.1 h2
   have k5:=qg6 k2
   exact qjW hF (qnI k3) (yP k4.2).1 (by show (flat R).length+rest.length≤_;omega)
  ·rw[qvI h h2,if_pos (by simpa using h2)]
 ·rw[qtA h,qvB h,if_neg (by simpa using h)]
  unfold jD
  rw[if_pos (by simpa using h)]
theorem qqC {F:Nat}(hF:20000≤F){R:List (Int×Int)}:qdz F R=some (((rm R []).1.length:Int),(rm R []).2):=by
 unfold qdz
 rw[qey hF];rfl
theorem qhe {R:List (Int×Int)}{rest w:qyo}(h1:skc R=0)(h2:gkc rest=0)(h3:cmn (flat R) rest=false)(h4:(flat R++rest).Perm w)(h5:w.Pairwise (·≤·))(h6:w.length≤300):rm R rest=(w,0):=by
 have hl:=h4.length_eq
 rw[qvN] at hl
 rw[qu5 h1 h2]
 unfold mrg
 rw[h3,if_neg (by simp),if_neg (by omega),qiU h4 h5]
theorem qlY {F:Nat}(hF:2000000≤F):qcZ F=some true:=by
 have s1:spl [1,3,4,5,8,9] 3=([(3,3)],[1,8,9],0):=by decide
 have s2:rm [(3,3)] [1,8,9]=([1,3,4,5,8,9],0):=qhe (by decide) (by decide) (by decide) (by decide) (by decide) (by decide)
 have s3:rm [(3,3)] []=([3,4,5],0):=qhe (by decide) (by decide) (by decide) (by decide) (by decide) (by decide)
 have s4:rm [(3,2),(5,1)] []=([],4):=qvB (by decide)
 have s5:rm [(3,3)] [4]=([],6):=by
  rw[qu5 (by decide) (by decide)]
  unfold mrg
  rw[if_pos (by decide)]
 unfold qcZ
 rw[qmL hF,s1]
 simp only[qvK]
 rw[qey (by omega),s2,qqC (by omega),s3,qey (by omega),s4,qey (by omega),s5]
 simp only[qvK]
 rw[qp1 (by simp;omega) (by simp)]
 simp only[qvK,if_true]
 rw[qaR (by simp;omega) (by simp)]
 simp only[qvK]
 unfold qaX
 rw[if_pos (by simp),qaR (by simp;omega) (by simp)]
 rfl
theorem qoH {l r:qyo}:(mrg l r).1.length≤300:=by
 unfold mrg
 split
 ·simp
 ·split
  ·simp
  ·simp;omega
theorem qrK {R:List (Int×Int)}{rest:qyo}:(rm R rest).1.length≤300:=by
 unfold rm
 split
 ·simp
 ·split
  ·simp
  ·exact qoH
theorem qib {R:List (Int×Int)}(p:Int×Int→Bool):(R.filter p).length≤R.length:=qxD _ _
theorem qpT {A B:List (Int×Int)}(h:A.Perm B):(flat A).Perm (flat B):=h.flatMap_right _
theorem qf6 (least:Int):∀ (R:List (Int×Int)),(spO least R++spS least R).Perm R
 | []=>qwl _
 | r::R=>by
  by_cases h:least≤r.2
  ·rw[qup h,quq h];exact (qf6 least R).cons r
  ·rw[qun h,qur h];exact qwR.trans ((qf6 least R).cons r)
theorem qmK (least:Int)(l:qyo):(flat (spO least (rs l))++flat (spS least (rs l))).Perm l:=by
 rw[← qic]
 have:=qpT (qf6 least (rs l))
 rwa [qdE] at this
theorem qpd {q:Int}{least:Int}{l:qyo}(hl:l.length≤300)(h:Ris q l):(spO least (rs l)).length≤300∧(flat (spS least (rs l))).length≤300:=by
 have h1:=qg4 (qhf (yP h).1 (yP h).2)
 rw[qdE] at h1
 have h2:=(qmK least l).length_eq
 rw[qvN] at h2
 have h3:(spO least (rs l)).length≤(rs l).length:=qib _
 omega
theorem qrO {l:qyo}(hl:l.length≤300)(h:Ris (-1) l):Sep (-1) (rs l)∧∀ r∈rs l,RunOk r:=by
 have hs:=qhf (yP h).1 (yP h).2
 refine ⟨hs,fun r hr=>?_⟩
 have hm:=qrY hs r hr
 have h2:=qg5 hr
 rw[qdE] at hm h2
 have h1:=hm.1
 have a1:=qhd h _ (hm.2.2.2 r.1 (by omega) (by omega))
 have a2:=qhd h _ (hm.2.2.2 (r.1+r.2-1) (by omega) (by omega))
 unfold Nd at a1 a2
 exact ⟨by omega,by omega,by omega⟩
theorem qtF {l:qyo}(hl:l.length≤300)(h:Ris (-1) l)(p:Int×Int→Bool):skc ((rs l).filter p)=0:=by
 obtain ⟨h1,h2⟩:=qrO hl h
 have h3:=qg4 h1
 rw[qdE] at h3
 exact qnL.2 ⟨qwS (qib p) (by omega),fun r hr=>h2 r (qw8.1 hr).1,qdZ p h1⟩
theorem qgv {R:List (Int×Int)}(p:Int×Int→Bool):∀ z∈flat (R.filter p),z∈flat R:=by
 intro z hz
 obtain ⟨r,h1,h2⟩:=qid.1 hz
 exact qid.2 ⟨r,(qw8.1 h1).1,h2⟩
theorem qlo {l:qyo}(h:Ris (-1) l)(p:Int×Int→Bool):Ris (-1) (flat ((rs l).filter p)):=by
 have hs:=qhf (yP h).1 (yP h).2
 have hsub:∀ z∈flat ((rs l).filter p),z∈l:=fun z hz=>by have:=qgv p z hz;rwa [qdE] at this
 exact qli (qnI (qdZ p hs)) (fun z hz=>(yP h).2 z (hsub z hz)) (fun z hz=>qhd h z (hsub z hz))
theorem qqE (f:Int→Bool):∀ (l pre:qyo) (c:Bool),cp (pre++l) (tb c pre.length (l.map f)) c=(if c then pre else [])++l.filter f
 | [],pre,c=>by
  show cp (pre++[]) [] c=_
  unfold cp
  simp
 | x::l,pre,c=>by
  rw[List.map_cons,qw0]
  by_cases h:f x=c
  ·have ih:=qqE f l (pre++[x]) c
   rw[qvM,qvN,show ((pre.length+[x].length:Nat):Int)=(pre.length:Int)+1 from by simp] at ih
   rw[h,qgQ]
   refine ih.trans ?_
   cases c
   ·simp
   ·simp
  ·have ih:=qqE f l [x] (f x)
   rw[qgR h]
   unfold cp
   have hc:(!c)=f x:=by cases c <;> cases hx:f x <;> simp_all
   rw[hc,show ((1:Int))=(([x]:qyo).length:Int) from rfl,qvP,List.take_left,qxP]
   have ih':cp (x::l) (tb (f x) (([x]:qyo).length:Int) (l.map f)) (f x)=(if f x then [x] else [])++l.filter f:=ih
   rw[ih']
   cases f x <;> simp
theorem quJ (l m:qyo):cp l (tbs l m) true=l.filter (hasB m):=by
 have:=qqE (hasB m) l [] true
 simpa[tbs] using this
theorem qit:∀ (bs:List Bool) (f c:Bool) (m:Int),0≤m→(f=true∨1≤m)→okB f (tb c m bs)=true
 | [],_,_,_,_,_=>rfl
 | b::bs,f,c,m,h,hf=>by
  by_cases hb:b=c
  ·subst hb
   rw[qgQ]
   exact qit bs f b (m+1) (by omega) (.inr (by omega))
  ·rw[qgR hb,qfk,qit bs false b 1 (by omega) (.inr (by omega))]
   rcases hf with hf | hf
   ·simp[h,hf]
   ·simp[h,hf]
theorem qgq:∀ (bs:List Bool) (c:Bool) (m:Int),0≤m→bsum (tb c m bs)≤m+bs.length
 | [],_,_,h=>by show (0:Int)≤_;simp;omega
 | b::bs,c,m,h=>by
  by_cases hb:b=c
  ·subst hb
   rw[qgQ]
   have:=qgq bs b (m+1) (by omega)
   rw[qwa];omega
  ·rw[qgR hb]
   have:=qgq bs b 1 (by omega)
   show m+bsum _≤_
   rw[qwa];omega
theorem qhS (l m:qyo):(tbs l m).length≤l.length:=by
 have:=qn1 true 0 (l.map (hasB m))
 rwa [qwO] at this
theorem qsS {l m:qyo}(h:gkc l=0):cpE l (tbs l m)=0:=by
 refine qkR.2 ⟨zD.1 h,?_,qit _ _ _ _ (by omega) (.inl rfl),?_⟩
 ·have:=qhS l m;omega
 ·have:=qgq (l.map (hasB m)) true 0 (by omega)
  rw[qwO] at this
  unfold tbs;omega
theorem qsU {l m:qyo}(h:gkc l=0):cpy l (tbs l m)=(l.filter (hasB m),0):=by
 rw[qkU (qsS h),quJ]
theorem qtE {l m:qyo}(h:gkc l=0)(hs:m.Sublist l):gkc m=0:=by
 obtain ⟨h1,h2⟩:=zD.1 h
 have:=hs.length_le
 exact zD.2 ⟨by omega,qli ((yP h2).1.sublist hs) (fun z hz=>(yP h2).2 z (hs.subset hz)) (fun z hz=>qhd h2 z (hs.subset hz))⟩
theorem qig {l:qyo}(h:gkc l=0):l.Pairwise (·<·):=(yP (zD.1 h).2).1
theorem qmj {l:qyo}{x:Int}:hasB l x=true↔x∈l:=by unfold hasB;simp
theorem qrj {a b:qyo}(ha:gkc a=0)(hb:gkc b=0):a.filter (hasB b)=b.filter (hasB a):=by
 refine qrx ((qig ha).sublist (qxH ..)) ((qig hb).sublist (qxH ..)) fun z=>?_
 rw[qw8,qw8,qmj,qmj]
 exact And.comm
theorem qpI (p:Int→Bool)(l:qyo):(l.filter p++l.filter fun x=>!p x).Perm l:=by
 induction l with
 | nil=>exact qwl _
 | cons x l ih =>
  rw[qw0,qw0]
  cases p x
  ·simp only[qv0,if_false,qx7,if_true]
   exact qwR.trans (ih.cons x)
  ·simp only[if_true,qwc,qv0,if_false]
   exact ih.cons x
theorem qnz {l bs rest w:qyo}(h1:cpE l bs=0)(h2:gkc rest=0)(h3:cmn (cp l bs true) rest=false)(h4:(cp l bs true++rest).Perm w)(h5:w.Pairwise (·≤·))(h6:w.length≤300):pjn l bs rest=(w,0):=by
 have hl:=h4.length_eq
 rw[qvN] at hl
 rw[quh h1 h2]
 unfold mrg
 rw[h3,if_neg (by simp),if_neg (by omega),qiU h4 h5]
structure Rep (l:qyo) (f:Bool) (S:qyo):Prop where
 bit:Bit l
 len:l.length≤8192
 ok:f=false→l=S
 full:f=true→8192<S.length
def Wr (m:Option (Int×qyo×Bool))(S:qyo):Prop:=∃ l f,m=some ((l.length:Int),pk l,f)∧Rep l f S
theorem qto:Rep [] false []:=⟨by intro x hx;simp at hx,by simp,fun _=>rfl,by simp⟩
theorem qrF {l S:qyo}{f:Bool}(h:Rep l f S){k:qyo}(hk:8192<(S++k).length):Rep l true (S++k):=⟨h.bit,h.len,by simp,fun _=>hk⟩
theorem qly {F:Nat}(hF:20000≤F){l k S:qyo}{f:Bool}(h:Rep l f S)(hk:Bit k)(hkm:k.length≤8192):Wr (ym F (l.length:Int) (pk l) f (k.length:Int) (pk k)) (S++k):=by
 have hl:=h.len
 unfold ym
 cases f with
 | true =>
  have:=h.full rfl
  refine ⟨l,true,by simp[ya],h.bit,h.len,by simp,fun _=>by simp;omega⟩
 | false =>
  obtain rfl:=h.ok rfl
  rw[if_neg (by simp),jr (by omega)]
  unfold ya
  by_cases hb:8192<l.length+k.length
  ·rw[if_neg (by simp;omega)]
   refine ⟨l,true,by simp;omega,h.bit,h.len,by simp,fun _=>by simp;omega⟩
  ·rw[if_pos (by simp;omega),qoc hF h.bit hk h.len hkm]
   refine ⟨l++k,false,by simp;omega,kp h.bit hk,by simp;omega,fun _=>rfl,by simp⟩
theorem qcU {F:Nat}(hF:20000≤F){l S:qyo}{f:Bool}(h:Rep l f S){n:Int}(h0:0≤n)(hn:n≤1099511627776):Wr (q7 F (l.length:Int) (pk l) f n) (S++ga n.toNat):=by
 obtain ⟨m,rfl⟩:=qvS h0
 unfold q7
 rw[yd (by omega),qhy hF (by omega)]
 simp only[qvK,qvP]
 obtain ⟨l',f',e,h'⟩:=qly hF h (qeL m) (by have:=que (n:=m) (by omega);omega)
 rw[e]
 exact ⟨l',f',rfl,h'⟩
theorem qho {m:Option (Int×qyo×Bool)}{S T:qyo}(h:Wr m S)(e:S=T):Wr m T:=e▸h
def encBs:Bool→qyo→qyo
 | _,[]=>[]
 | b,n::bs=>ga (n-if b then 1 else 0).toNat++encBs true bs
def encB (bs:qyo):qyo:=ga bs.length++encBs false bs
theorem qq5 (i:Nat):imin (i:Int) 1=if 0<i then 1 else 0:=by
 unfold imin
 by_cases h:0<i
 ·rw[if_pos h]
  by_cases h2:i=1
  ·subst h2;simp
  ·rw[if_pos (by omega)]
 ·rw[if_neg h,if_neg (by omega)];omega
theorem qkj {F:Nat}(hF:20000≤F){bs:qyo}(hm:bs.length≤1000):∀ (k i:Nat) (l:qyo) (f:Bool) (S:qyo),bs.length<k+i→i≤bs.length→Rep l f S→okB (!decide (0<i)) (bs.drop i)=true→(∀ n∈bs,n≤1000000) →
  Wr (zL F bs k ((i:Int),(l.length:Int),pk l,f)) (S++encBs (decide (0<i)) (bs.drop i))
 | 0,_,_,_,_,_,_,_,_,_=>by omega
 | k+1,i,l,f,S,h,hi,hr,hok,hb=>by
  show Wr (yn F bs (zL F bs k) (i:Int) (l.length:Int) (pk l) f) _
  unfold yn
  by_cases hlt:i<bs.length
  ·rw[qvV hlt,qfk] at hok
   simp only[qwq,qw3,decide_eq_true_eq,qyb,decide_eq_false_iff_not] at hok
   have hn:=hb bs[i] (qwe hlt)
   rw[if_pos (by simp;omega),qG,qvL hlt,qvV hlt,qq5]
   simp only[qvK]
   have e1:isub .i64 bs[i] (if 0<i then 1 else 0)=bs[i]-(if decide (0<i)=true then 1 else 0):=by
    by_cases h0:0<i
    ·rw[if_pos h0,if_pos (by simpa using h0),zB (by omega) (by omega)]
    ·rw[if_neg h0,if_neg (by simpa using h0),zB (by omega) (by omega)]
   rw[e1]
   obtain ⟨l',f',e,h'⟩:=qcU hF hr (n:=bs[i]-(if decide (0<i)=true then 1 else 0)) (by split <;> rename_i h0 <;> simp at h0 <;> omega) (by split <;> omega)
   rw[e]
   simp only[qvK]
   rw[qC (by omega)]
   refine qho (qkj hF hm k (i+1) l' f' _ (by omega) (by omega) h' (by simpa using hok.2) hb) ?_
   rw[qvM]
   simp[encBs]
  ·rw[if_neg (by simp;omega),qv1 (by omega)]
   exact ⟨l,f,rfl,by simpa[encBs] using hr⟩
theorem qn3 {F:Nat}(hF:20000≤F){bs l S:qyo}{f:Bool}(hm:bs.length≤1000)(hr:Rep l f S)(hok:okB true bs=true)(hb:∀ n∈bs,n≤1000000):Wr (vB F (l.length:Int) (pk l) f bs) (S++encB bs):=by
 unfold vB
 obtain ⟨l',f',e,h'⟩:=qcU hF hr (n:=(bs.length:Int)) (by omega) (by omega)
 rw[e]
 simp only[qvK]
 refine qho (qkj hF hm F 0 l' f' _ (by omega) (by omega) h' (by simpa using hok) hb) ?_
 simp[encB]
def encRs (least:Int):Bool→Int→List (Int×Int)→qyo
 | _,_,[]=>[]
 | b,a,r::R=>ga (if b then r.1-a-2 else foldOf (r.1-a)).toNat++(ga (r.2-least).toNat++encRs least true (r.1+r.2-1) R)
def encR (least node:Int)(R:List (Int×Int)):qyo:=ga R.length++encRs least false node R
theorem qie {x:Int}(h:-2000000≤x∧x≤2000000):0≤foldOf x∧foldOf x≤4000001:=by unfold foldOf;split <;> omega
theorem qps {F:Nat}(hF:20000≤F){R:List (Int×Int)}{least:Int}(hm:R.length≤300)(hR:∀ r∈R,RunOk r∧least≤r.2)(hle:0≤least):∀ (k i:Nat) (a:Int) (l:qyo) (f:Bool) (S:qyo),R.length<k+i→i≤R.length→Rep l f S→Nd a→(∃ q,Sep q (R.drop i)∧(0<i→a+1≤q)) →
  Wr (zu F least R k (a,(i:Int),(l.length:Int),pk l,f)) (S++encRs least (decide (0<i)) a (R.drop i))
 | 0,_,_,_,_,_,_,_,_,_,_=>by omega
 | k+1,i,a,l,f,S,h,hi,hr,ha,hs=>by
  show Wr (yY F least R (zu F least R k) a (i:Int) (l.length:Int) (pk l) f) _
  unfold yY
  by_cases hlt:i<R.length
  ·obtain ⟨hro,hrl⟩:=hR R[i] (qwe hlt)
   unfold RunOk at hro
   unfold Nd at ha
   rw[if_pos (by simp;omega),qG,qvL hlt,qvV hlt]
   simp only[qvK]
   have hj:∀ {l':qyo} {f':Bool} {S':qyo},Rep l' f' S'→S'=S++ga (if decide (0<i)=true then R[i].1-a-2 else foldOf (R[i].1-a)).toNat→Sep (R[i].1+R[i].2) (R.drop (i+1)) →
     Wr (kT F (zu F least R k) least (i:Int) R[i] (l'.length:Int) (pk l') f') (S++encRs least (decide (0<i)) a (R[i]::R.drop (i+1))):=by
    intro l' f' S' hr' hS hsep
    unfold kT
    rw[zB (by omega) (by omega)]
    obtain ⟨l2,f2,e,h2⟩:=qcU hF hr' (n:=R[i].2-least) (by omega) (by omega)
    rw[e]
    simp only[qvK]
    rw[qim (by omega) (by omega),qC (by omega)]
    refine qho (qps hF hm hR hle k (i+1) (R[i].1+R[i].2-1) l2 f2 _ (by omega) (by omega) h2 (by unfold Nd;omega) ⟨_,hsep,fun _=>by omega⟩) ?_
    rw[hS];simp[encRs,qvM]
   obtain ⟨q,hsp,hq⟩:=hs
   rw[qvV hlt] at hsp
   obtain ⟨h1,h2,h3⟩:=hsp
   by_cases h0:0<i
   ·have hq':=hq h0
    have e3:isub .i64 R[i].1 a=R[i].1-a:=zB (by omega) (by omega)
    rw[if_neg (by simp;omega),e3,zB (by omega) (by omega)]
    obtain ⟨l',f',e,h'⟩:=qcU hF hr (n:=R[i].1-a-2) (by omega) (by omega)
    rw[e]
    simp only[qvK]
    exact hj h' (by rw[if_pos (by simpa using h0)]) h3
   ·obtain rfl:i=0:=by omega
    have hf:=qie (x:=R[0].1-a) (by omega)
    rw[if_pos (by simp),zB (by omega) (by omega),qol F (by omega) (by omega)]
    simp only[qvK]
    rw[show iconv .i64 (foldOf (R[0].1-a))=foldOf (R[0].1-a) from kE (by omega) (by omega)]
    obtain ⟨l',f',e,h'⟩:=qcU hF hr (n:=foldOf (R[0].1-a)) (by omega) (by omega)
    rw[e]
    simp only[qvK]
    exact hj h' (by rw[if_neg (by simp)]) h3
  ·rw[if_neg (by simp;omega),qv1 (by omega)]
   exact ⟨l,f,rfl,by simpa[encRs] using hr⟩
theorem qsB {F:Nat}(hF:20000≤F){R:List (Int×Int)}{least node q:Int}{l S:qyo}{f:Bool}(hm:R.length≤300)(hR:∀ r∈R,RunOk r∧least≤r.2)(hle:0≤least)(hr:Rep l f S)(hn:Nd node)(hs:Sep q R) :
  Wr (jq F (l.length:Int) (pk l) f node least R) (S++encR least node R):=by
 unfold jq
 obtain ⟨l',f',e,h'⟩:=qcU hF hr (n:=(R.length:Int)) (by omega) (by omega)
 rw[e]
 simp only[qvK]
 refine qho (qps hF hm hR hle F 0 node l' f' _ (by omega) (by omega) h' hn ⟨q,by simpa using hs,by omega⟩) ?_
 simp[encR]
theorem qk7:∀ {bs:qyo} {f:Bool},okB f bs=true→∀ n∈bs,n≤bsum bs
 | [],_,_,n,h=>by simp at h
 | x::bs,f,h,n,hn=>by
  rw[qfk] at h
  simp only[qwq] at h
  have h0:=qla h.2
  have hx:0≤x:=by simpa using h.1.1
  have hb:bsum (x::bs)=x+bsum bs:=rfl
  rcases qvR.1 hn with rfl | hn
  ·omega
  ·have:=qk7 h.2 n hn;omega
def encO (rest:qyo)(least:Int):List (Int×Int):=if 0<least then spO least (rs rest) else []
def encS (rest:qyo)(least:Int):qyo:=if 0<least then flat (spS least (rs rest)) else rest
def encL (node:Int)(rest:qyo)(least:Int)(k:Nat):qyo :=
 if rest=[] then [] else (if 0<least then encR least node (encO rest least) else [])++zes k (gp false node (encS rest least))
def rstO (l fr:qyo)(back:Int):qyo:=if 0<back then rst fr l else l
def enc (node:Int)(l fr:qyo)(back least:Int)(k:Nat):qyo :=
 ga l.length++if l=[] then [] else (if 0<back then encB (tbs fr l) else [])++encL node (rstO l fr back) least k
theorem qth {F:Nat}(hF:200000≤F){a l:qyo}(ha:gkc a=0)(hl:gkc l=0):qbN F a l=some (tbs a l,rst a l):=by
 obtain ⟨h1,h2⟩:=zD.1 ha
 obtain ⟨h3,h4⟩:=zD.1 hl
 have:=qlg hF (yP h2).1 (yP h4).1 h1 h3 F 0 [] true 0 (by omega) (by omega) (by simp) (by omega)
 rw[qv5,qv8] at this
 unfold qbN
 rw[show ((0:Nat):Int)=0 from rfl] at this
 rw[this]
 rfl
theorem qm0 {F k:Nat}(hF:20000≤F)(h1:1≤k)(h2:k≤16){l S rest:qyo}{f:Bool}{node q:Int}(hr:Rep l f S)(hn:Nd node)(hm:rest.length≤300)(hs:Ris q rest) :
  Wr (kR F node (k:Int) rest (l.length:Int) (pk l) f) (S++zes k (gp false node rest)):=by
 unfold kR
 have h40:L40 (gp false node rest):=fun x hx=>by have:=qmi hn hs (by simp) x hx;omega
 have hp:=qow (F:=F) (l:=[]) hF h1 h2 h40 (by rw[qkZ];omega) (by intro x hx;simp at hx) (by simp)
 simp only[qv8,qwN] at hp
 rw[qox hF hm hn hs]
 simp only[qvK]
 rw[show qaH F 0 ([]:qyo) (gp false node rest) (k:Int)=_ from hp]
 simp only[qvK]
 unfold kS
 by_cases hb:(zes k (gp false node rest)).length≤8192
 ·rw[if_pos hb]
  simp only[qwc,Bool.or_false]
  obtain ⟨l',f',e,h'⟩:=qly hF hr (qpu k _) hb
  rw[e]
  exact ⟨l',f',rfl,h'⟩
 ·rw[if_neg hb]
  simp only[qx7,Bool.or_true]
  have hr':=qrF hr (k:=zes k (gp false node rest)) (by simp;omega)
  obtain ⟨l',f',e,h'⟩:=qly hF hr' (k:=[]) (by intro x hx;simp at hx) (by simp)
  have e':ym F (l.length:Int) (pk l) true 0 []=some ((l'.length:Int),pk l',f'):=e
  rw[e']
  exact ⟨l',f',rfl,by simpa using h'⟩
theorem qkl {F k:Nat}(hF:2000000≤F)(h1:1≤k)(h2:k≤16){l S rest:qyo}{f:Bool}{node least:Int}(hr:Rep l f S)(hn:Nd node)(hg:gkc rest=0)(_hle:least=0∨2≤least∧least≤300) :
  Wr (kQ F node least (k:Int) rest (l.length:Int) (pk l) f) (S++encL node rest least k):=by
 obtain ⟨hm,hs⟩:=zD.1 hg
 unfold kQ encL encO encS
 by_cases h0:rest=[]
 ·subst h0
  exact ⟨l,f,rfl,by simpa using hr⟩
 ·have hlen:rest.length≠0:=by simpa using h0
  rw[if_neg (by simp;exact h0),if_neg h0]
  by_cases hl:0<least
  ·rw[if_pos (by simpa using hl),if_pos hl,if_pos hl,if_pos hl,qiK hF hm hs]
   simp only[qvK]
   obtain ⟨s1,s2⟩:=qpd (least:=least) hm hs
   obtain ⟨r1,r2⟩:=qrO hm hs
   obtain ⟨l',f',e,h'⟩:=qsB (F:=F) (R:=spO least (rs rest)) (least:=least) (node:=node) (q:=-1) (by omega) s1 (fun r hr=>⟨r2 r (qw8.1 hr).1,by simpa using (qw8.1 hr).2⟩) (by omega) hr hn (qdZ _ r1)
   rw[e]
   simp only[qvK]
   refine qho (qm0 (by omega) h1 h2 h' hn s2 (qlo hs _)) ?_
   rw[qvM]
  ·rw[if_neg (by simpa using hl),if_neg hl,if_neg hl,qv8]
   exact qm0 (by omega) h1 h2 hr hn hm hs
theorem qo8 {a l:qyo}(h:gkc l=0):gkc (rst a l)=0:=qtE h qxH
theorem qm2 {F k:Nat}(hF:2000000≤F)(h1:1≤k)(h2:k≤16){x fr:qyo}{node back least:Int}(hn:Nd node)(hg:gkc x=0)(hfr:0<back→gkc fr=0)(hle:least=0∨2≤least∧least≤300) :
  Wr (yO F 0 [] false node x fr back least (k:Int)) (enc node x fr back least k):=by
 obtain ⟨hm,hs⟩:=zD.1 hg
 unfold yO enc rstO
 obtain ⟨l,f,e,hr⟩:=qcU (F:=F) (by omega) qto (n:=(x.length:Int)) (by omega) (by omega)
 rw[show q7 F 0 ([]:qyo) false (x.length:Int)=_ from e]
 simp only[qvK,qv8,qvP] at hr ⊢
 by_cases h0:x=[]
 ·subst h0
  rw[if_pos (by simp),if_pos rfl]
  exact ⟨l,f,rfl,by simpa using hr⟩
 ·rw[if_neg (by simpa using h0),if_neg h0]
  by_cases hb:0<back
  ·have hfg:=hfr hb
   have hfl:=(zD.1 hfg).1
   rw[if_pos (by simpa using hb),if_pos hb,if_pos hb,qth (by omega) hfg hg]
   simp only[qvK]
   have htl:=qhS fr x
   have hok:okB true (tbs fr x)=true:=qit _ _ _ _ (by omega) (Or.inl rfl)
   have hsum:bsum (tbs fr x)≤0+(fr.map (hasB x)).length:=qgq _ _ _ (by omega)
   rw[qwO] at hsum
   have hbd:∀ n∈tbs fr x,n≤1000000:=fun n hnm=>by
    have:=qk7 hok n hnm
    omega
   obtain ⟨l',f',e',h'⟩:=qn3 (F:=F) (bs:=tbs fr x) (by omega) (by omega) hr hok hbd
   rw[e']
   simp only[qvK]
   refine qho (qkl hF h1 h2 h' hn (qo8 hg) hle) ?_
   rw[qvM]
  ·rw[if_neg (by simpa using hb),if_neg hb,if_neg hb,qv8]
   exact qkl hF h1 h2 hr hn hg hle
def rgam (l:qyo)(p:Nat)(most:Int):Option (Int×Nat):=if (fg l p).2.2=0∧(fg l p).1≤most then some ((fg l p).1,(fg l p).2.1.toNat) else none
def Rd {α:Type}(l:qyo)(m:Option ((α×Int×Int) ⊕ (Int×Int)))(o:Option (α×Nat)):Prop :=
 match o with
 | none=>∃ z,m=some (.inr z)
 | some x=>m=some (.inl (x.1,(l.length:Int),(x.2:Int)))
theorem js {l:qyo}{p:Nat}{most:Int}{x:Int×Nat}(h:rgam l p most=some x):0≤x.1∧x.1≤most∧x.1≤1099511627776∧x.2≤l.length:=by
 unfold rgam at h
 split at h
 ·rename_i hc
  rcases qqL (l:=l) (a:=p) with h1 | ⟨n,q,h1,h2,h3⟩
  ·exact absurd hc.1 h1
  ·simp only[qvY] at h
   subst h
   rw[h1] at hc ⊢
   simp only at hc ⊢
   omega
 ·simp at h
theorem quX {F:Nat}:kK F true=some (.inl ()):=rfl
theorem qrc {F:Nat}:kK F false=some (.inr ()):=rfl
theorem qfw {F:Nat}(hF:20000≤F){l:qyo}(hl:Bit l)(hm:l.length≤8192){p:Nat}(hp:p≤l.length){most:Int}(h0:0≤most)(h1:most≤1000000000):Rd l (zv F (l.length:Int) (pk l) (p:Int) most) (rgam l p most):=by
 obtain ⟨mo,rfl⟩:=qvS h0
 unfold zv rgam
 rw[qgw hF hl hm hp]
 simp only[qvK]
 rw[yd (by omega)]
 rcases qqL (l:=l) (a:=p) with h2 | ⟨n,q,h2,h3,h4⟩
 ·rw[if_neg (fun h=>h2 h.1),show ((fg l p).2.2 == 0 && decide ((fg l p).1≤(mo:Int)))=false from by simp[h2],qrc]
  exact ⟨_,rfl⟩
 ·rw[h2]
  simp only[true_and,beq_self_eq_true,Bool.true_and]
  by_cases hc:(n:Int)≤mo
  ·rw[if_pos hc,decide_eq_true hc,quX]
   show _=_
   simp only[lbnd,qvK,qvP]
   rw[qaQ (by omega)]
  ·rw[if_neg hc,decide_eq_false hc,qrc]
   exact ⟨_,rfl⟩
theorem qef {α β:Type}{l:qyo}{m:Option ((α×Int×Int) ⊕ (Int×Int))}{o:Option (α×Nat)}{k:α×Int×Int→Option ((β×Int×Int) ⊕ (Int×Int))}{kl:Int×Int→Option ((β×Int×Int) ⊕ (Int×Int))}{g:α×Nat→Option (β×Nat)}
  (h:Rd l m o) (hk:∀ x,o=some x→Rd l (k (x.1,(l.length:Int),(x.2:Int))) (g x)) (hkl:∀ z,∃ z',kl z=some (.inr z')):Rd l (lbnd m k kl) (o.bind g):=by
 cases o with
 | none =>
  obtain ⟨z,h⟩:=h
  rw[h]
  exact hkl z
 | some x =>
  have h':m=some (.inl (x.1,(l.length:Int),(x.2:Int))):=h
  rw[h']
  exact hk x rfl
def rbl (l:qyo)(many:Int):Nat→Bool→Nat→Option (qyo×Nat)
 | 0,_,p=>some ([],p)
 | k+1,b,p=>(rgam l p many).bind fun g=>(rbl l many k true g.2).bind fun r=>some ((g.1+if b then 1 else 0)::r.1,r.2)
def rblk (l:qyo)(p:Nat)(many:Int):Option (qyo×Nat):=(rgam l p (many+1)).bind fun g=>rbl l many g.1.toNat false g.2
theorem qoV {l:qyo}{many:Int}:∀ {k:Nat} {b:Bool} {p:Nat} {r:qyo×Nat},p≤l.length→rbl l many k b p=some r→r.1.length=k∧r.2≤l.length
 | 0,_,p,r,hp,h=>by simp only[rbl,qvY] at h;subst h;exact ⟨rfl,hp⟩
 | k+1,b,p,r,hp,h=>by
  simp only[rbl,qwp,qvY] at h
  obtain ⟨g,h1,r',h2,rfl⟩:=h
  have h3:=qoV (js h1).2.2.2 h2
  simp[h3.1,h3.2]
theorem qoG {α:Type}{lim n:Nat}{y:α}(h:n≤lim):mk lim y (n:Int)=some (qvU n y):=by
 unfold mk
 rw[if_pos ⟨by omega,by omega⟩,qvP]
theorem qr0 {α:Type}{o r:List α}{x y:α}:(o++x::r).set o.length y=o++y::r:=by
 rw[List.set_append_right _ _ (qv3 _)];simp
theorem qk2 {α:Type}{o r:List α}{x:α}:idx (o++x::r) (o.length:Int)=some x:=by
 rw[qG];simp
theorem qj6 {F:Nat}(hF:20000≤F){l:qyo}(hl:Bit l)(hm:l.length≤8192){many:Int}(h0:0≤many)(h1:many≤1000000){w:qyo}(hw:w.length≤1000000):∀ (k:Nat) (o:qyo) (p:Nat),w.length<k+o.length→o.length≤w.length→p≤l.length →
  Rd l (zK F (pk l) many w k (o++qvU (w.length-o.length) 0,(o.length:Int),(l.length:Int),(p:Int)))
   ((rbl l many (w.length-o.length) (decide (0<o.length)) p).map fun r=>(o++r.1,r.2))
 | 0,_,_,_,_,_=>by omega
 | k+1,o,p,h,ho,hp=>by
  show Rd l (yl F (pk l) many w (zK F (pk l) many w k) (o++qvU (w.length-o.length) 0) (o.length:Int) (l.length:Int) (p:Int)) _
  unfold yl
  by_cases hlt:o.length<w.length
  ·rw[if_pos (by simpa using hlt)]
   obtain ⟨d,hd⟩:∃ d,w.length-o.length=d+1:=⟨w.length-o.length-1,by omega⟩
   rw[hd]
   unfold rbl
   rw[qwG,qyg]
   refine qef (qfw hF hl hm hp h0 (by omega)) (fun g hg=>?_) (fun z=>⟨_,rfl⟩)
   have hok:=js hg
   rw[qk2,qvP,qr0]
   simp only[qvK,lett,Function.comp]
   rw[qq5,qD (by split <;> omega) (by split <;> omega),qC (by omega)]
   have e:w.length-(o++[g.1+if 0<o.length then 1 else 0]).length=d:=by simp;omega
   have:=qj6 hF hl hm h0 h1 hw k (o++[g.1+if 0<o.length then 1 else 0]) g.2 (by simp;omega) (by simp;omega) hok.2.2.2
   rw[e] at this
   simp only[qvM,List.singleton_append,qvN,qx0] at this
   rw[show decide (0<o.length+1)=true from by simp] at this
   have h9:((rbl l many d true g.2).bind fun r=>some ((g.1+if decide (0<o.length)=true then 1 else 0)::r.1,r.2)).map (fun r=>(o++r.1,r.2))=(rbl l many d true g.2).map fun r=>(o++(g.1+if 0<o.length then 1 else 0)::r.1,r.2):=by
    cases rbl l many d true g.2 <;> simp
   rw[h9]
   exact this
  ·rw[if_neg (by simp;omega),show w.length-o.length=0 from by omega]
   show _=_
   simp[vY]
theorem qmD {F:Nat}(hF:20000≤F){l:qyo}(hl:Bit l)(hm:l.length≤8192){many:Int}(h0:0≤many)(h1:many≤1000){p:Nat}(hp:p≤l.length):Rd l (vA F (l.length:Int) (pk l) (p:Int) many) (rblk l p many):=by
 unfold vA rblk
 rw[qD (by omega) (by omega)]
 refine qef (qfw hF hl hm hp (by omega) (by omega)) (fun g hg=>?_) (fun z=>⟨_,rfl⟩)
 have hok:=js hg
 obtain ⟨n,hn⟩:=qvS hok.1
 rw[hn,qoG (by omega)]
 simp only[qvK,qvP]
 have:=qj6 hF hl hm h0 (by omega) (w:=qvU n 0) (by simp;omega) F [] g.2 (by simp;omega) (by simp) hok.2.2.2
 simp only[qww,qwN,qxC,qv8] at this
 rw[show decide (0<0)=false from rfl] at this
 have h9:(rbl l many n false g.2).map (fun r=>(r.1,r.2))=rbl l many n false g.2:=by cases rbl l many n false g.2 <;> rfl
 rw[h9] at this
 exact this
theorem qfK {x:qyo}{xs:List (qyo)}{i:Nat}(h:xs[i]?=some x):(xs.drop i).flatten=x++(xs.drop (i+1)).flatten:=by
 have hlt:=(qvW.1 h).1
 rw[qvV hlt,qxR]
 rw[qvL hlt] at h
 simp only[qvY] at h
 rw[h]
theorem qjO {F:Nat}{xs:List (qyo)}(hm:xs.length≤1000):∀ (k i:Nat) (o:qyo),xs.length<k+i→i≤xs.length→o.length+(xs.drop i).flatten.length≤1000000 →
  qM F xs k (o,(i:Int))=some (o++(xs.drop i).flatten)
 | 0,_,_,_,_,_=>by omega
 | k+1,i,o,h,hi,ho=>by
  show qH F xs (qM F xs k) o (i:Int)=_
  unfold qH
  by_cases hlt:i<xs.length
  ·have hg:=qvL hlt
   have hf:=qfK hg
   rw[hf,qvN] at ho
   rw[if_pos (by simpa using hlt),qG,hg,hf]
   simp only[qvK]
   rw[yb (by omega),qC (by omega)]
   simp only[qvK]
   rw[qjO hm k (i+1) _ (by omega) (by omega) (by rw[qvN];omega),qvM]
  ·rw[if_neg (by simp;omega),qv1 (by omega)]
   simp[yL]
theorem qjP {F:Nat}(hF:20000≤F){xs:List (qyo)}(hm:xs.length≤1000)(ht:xs.flatten.length≤1000000):∀ (k i n:Nat),xs.length<k+i→i≤xs.length→n+(xs.drop i).flatten.length=xs.flatten.length →
  qN F xs k ((n:Int),(i:Int))=some xs.flatten
 | 0,_,_,_,_,_=>by omega
 | k+1,i,n,h,hi,hn=>by
  show qI F xs (qN F xs k) (n:Int) (i:Int)=_
  unfold qI
  by_cases hlt:i<xs.length
  ·have hg:=qvL hlt
   have hf:=qfK hg
   rw[hf,qvN] at hn
   rw[if_pos (by simpa using hlt),qG,hg]
   simp only[qvK]
   rw[jr (by omega),if_neg (by simp;omega),qC (by omega)]
   exact qjP hF hm ht k (i+1) _ (by omega) (by omega) (by omega)
  ·rw[if_neg (by simp;omega)]
   rw[qv1 (by omega)] at hn
   simp only[List.flatten_nil,qwN] at hn
   unfold zQ
   rw[qoy (by omega)]
   simp only[qvK]
   have:=qjO (F:=F) hm F 0 [] (by omega) (by omega) (by simpa using ht)
   simpa using this
theorem qnh {F:Nat}(hF:20000≤F){a b c:qyo}(h:a.length+(b.length+c.length)≤1000000):zi F [a,b,c]=some (a++(b++c)):=by
 have:=qjP (F:=F) hF (xs:=[a,b,c]) (by simp) (by simpa using h) F 0 0 (by simp;omega) (by simp) (by simp)
 simp only[qxR,List.flatten_nil,qwL] at this
 exact this
theorem qty {F:Nat}{a:qyo}(h:a.length≤1000000):zg F a=some (srt a):=by
 unfold zg
 rw[if_pos (by omega)]
def rrn (l:qyo)(least many:Int):Nat→Bool→Int→Nat→Option (List (Int×Int)×Nat)
 | 0,_,_,p=>some ([],p)
 | k+1,b,a,p=>(rgam l p 2097152).bind fun g=>(rgam l g.2 many).bind fun x =>
   (rrn l least many k true (a+(if b then g.1+2 else zR g.1)+(x.1+least)-1) x.2).bind fun r=>some ((a+(if b then g.1+2 else zR g.1),x.1+least)::r.1,r.2)
def rrns (l:qyo)(p:Nat)(node least many:Int):Option (List (Int×Int)×Nat):=(rgam l p (many/least)).bind fun g=>rrn l least many g.1.toNat false node g.2
theorem qlm {l:qyo}{least many:Int}:∀ {k:Nat} {b:Bool} {a:Int} {p:Nat} {r:List (Int×Int)×Nat},p≤l.length→rrn l least many k b a p=some r→r.1.length=k∧r.2≤l.length
 | 0,_,_,p,r,hp,h=>by simp only[rrn,qvY] at h;subst h;exact ⟨rfl,hp⟩
 | k+1,b,a,p,r,hp,h=>by
  simp only[rrn,qwp,qvY] at h
  obtain ⟨g,h1,x,h2,r',h3,rfl⟩:=h
  have h4:=qlm (js h2).2.2.2 h3
  simp[h4.1,h4.2]
theorem qlw {g:Int}(h0:0≤g)(h:g≤2097152):-1048577≤zR g∧zR g≤1048576:=by unfold zR;split <;> omega
theorem qo6 {F:Nat}(hF:20000≤F){l:qyo}(hl:Bit l)(hm:l.length≤8192){least many:Int}(h0:0≤many)(h1:many≤300)(h2:2≤least)(h3:least≤300){w:List (Int×Int)}(hw:w.length≤1000):∀ (k:Nat) (o:List (Int×Int)) (a:Int) (p:Nat),w.length<k+o.length→o.length≤w.length→p≤l.length→(-3000000*((o.length:Int)+1)≤a∧a≤3000000*((o.length:Int)+1)) →
  Rd l (zl F (pk l) least many w k (o++qvU (w.length-o.length) (0,0),a,(o.length:Int),(l.length:Int),(p:Int)))
   ((rrn l least many (w.length-o.length) (decide (0<o.length)) a p).map fun r=>(o++r.1,r.2))
 | 0,_,_,_,_,_,_,_=>by omega
 | k+1,o,a,p,h,ho,hp,ha=>by
  show Rd l (yC F (pk l) least many w (zl F (pk l) least many w k) (o++qvU (w.length-o.length) (0,0)) a (o.length:Int) (l.length:Int) (p:Int)) _
  unfold yC
  by_cases hlt:o.length<w.length
  ·rw[if_pos (by simpa using hlt)]
   obtain ⟨d,hd⟩:∃ d,w.length-o.length=d+1:=⟨w.length-o.length-1,by omega⟩
   rw[hd]
   unfold rrn
   rw[qwG,qyg]
   refine qef (qfw hF hl hm hp (by omega) (by omega)) (fun g hg=>?_) (fun z=>⟨_,rfl⟩)
   have hok:=js hg
   have hun:=qlw hok.1 hok.2.1
   have hj:∀ (s:Int),s=a+(if decide (0<o.length)=true then g.1+2 else zR g.1) →
     Rd l (kD F (zl F (pk l) least many w k) (pk l) least many (o++(0,0)::qvU d (0,0)) (o.length:Int) (g.1,(l.length:Int),(g.2:Int)) s)
      (Option.map (fun r=>(o++r.1,r.2)) ((rgam l g.2 many).bind fun x=>(rrn l least many d true (a+(if decide (0<o.length)=true then g.1+2 else zR g.1)+(x.1+least)-1) x.2).bind fun r=>some ((a+(if decide (0<o.length)=true then g.1+2 else zR g.1),x.1+least)::r.1,r.2))):=by
    intro s hs
    rw[← hs]
    have hsb:-3000000*((o.length:Int)+1)-1048577≤s∧s≤3000000*((o.length:Int)+1)+2097154:=by rw[hs];split <;> omega
    unfold kD
    rw[qyg]
    refine qef (qfw hF hl hm hok.2.2.2 h0 (by omega)) (fun x hx=>?_) (fun z=>⟨_,rfl⟩)
    have hox:=js hx
    rw[qk2,qvP,qr0]
    simp only[qvK,lett,Function.comp]
    rw[qk2,qD (by omega) (by omega)]
    simp only[qvK]
    have e1:isub .i64 (x.1+least) 1=x.1+least-1:=zB (by omega) (by omega)
    rw[e1,qD (by omega) (by omega),qC (by omega)]
    have e:w.length-(o++[(s,x.1+least)]).length=d:=by simp;omega
    have:=qo6 hF hl hm h0 h1 h2 h3 hw k (o++[(s,x.1+least)]) (s+(x.1+least)-1) x.2 (by simp;omega) (by simp;omega) hox.2.2.2 (by simp;omega)
    rw[e] at this
    simp only[qvM,List.singleton_append,qvN,qx0] at this
    rw[show decide (0<o.length+1)=true from by simp] at this
    have h9:((rrn l least many d true (s+(x.1+least)-1) x.2).bind fun r=>some ((s,x.1+least)::r.1,r.2)).map (fun r=>(o++r.1,r.2))=(rrn l least many d true (s+(x.1+least)-1) x.2).map fun r=>(o++(s,x.1+least)::r.1,r.2):=by
     cases rrn l least many d true (s+(x.1+least)-1) x.2 <;> simp
    rw[h9,show s+(x.1+least-1)=s+(x.1+least)-1 from by omega]
    exact this
   simp only[Function.comp]
   by_cases hz:0<o.length
   ·rw[if_neg (by simp;intro hh;subst hh;simp at hz)]
    have e1:iadd .i64 g.1 2=g.1+2:=qD (by omega) (by omega)
    rw[e1,qD (by omega) (by omega)]
    exact hj _ (by rw[if_pos (by simpa using hz)])
   ·have hz0:o.length=0:=by omega
    rw[if_pos (by simp[hz0])]
    obtain ⟨gn,hgn⟩:=qvS hok.1
    rw[show iconv .u64 g.1=g.1 from by rw[hgn];exact yd (by omega),qki F hok.1 (by omega)]
    simp only[qvK]
    rw[qD (by omega) (by omega)]
    exact hj _ (by rw[if_neg (by simp[hz0])])
  ·rw[if_neg (by simp;omega),show w.length-o.length=0 from by omega]
   show _=_
   simp[jU]
theorem qpZ {F:Nat}(hF:20000≤F){l:qyo}(hl:Bit l)(hm:l.length≤8192){node least many:Int}(h0:0≤many)(h1:many≤300)(h2:2≤least)(h3:least≤300)(hn:Nd node){p:Nat}(hp:p≤l.length) :
  Rd l (jp F (l.length:Int) (pk l) (p:Int) node least many) (rrns l p node least many):=by
 unfold jp rrns
 unfold Nd at hn
 have hq:iquo .i64 many least=many/least:=by
  obtain ⟨m,rfl⟩:=qvS h0
  obtain ⟨c,rfl⟩:=qvS (show 0≤least by omega)
  unfold iquo
  rw[qxk (by omega)]
  have h5:(m:Int)/(c:Int)≤m:=qxX _ (by omega)
  have h6:0≤(m:Int)/(c:Int):=qyf (by omega) (by omega)
  exact kE (by omega) (by omega)
 have hd0:0≤many/least:=qyf h0 (by omega)
 have hd1:many/least≤many:=qxX _ h0
 have hc:∀ {ρ:Type} (m:Option ρ),chk (least != 0) m=m:=fun m=>by unfold chk;rw[if_pos (by simp;omega)]
 rw[hq,hc]
 refine qef (qfw hF hl hm hp hd0 (by omega)) (fun g hg=>?_) (fun z=>⟨_,rfl⟩)
 have hok:=js hg
 obtain ⟨n,hn'⟩:=qvS hok.1
 rw[hn',qoG (by omega)]
 simp only[qvK,qvP]
 have:=qo6 hF hl hm h0 h1 h2 h3 (w:=qvU n (0,0)) (by simp;omega) F [] node g.2 (by simp;omega) (by simp) hok.2.2.2 (by simp;omega)
 simp only[qww,qwN,qxC,qv8] at this
 rw[show decide (0<0)=false from rfl] at this
 have h9:(rrn l least many n false node g.2).map (fun r=>(r.1,r.2))=rrn l least many n false node g.2:=by cases rrn l least many n false node g.2 <;> rfl
 rw[h9] at this
 exact this
def rls2 (l:qyo)(node:Int)(k:Nat)(many:Int)(out:qyo)(R:List (Int×Int))(p:Nat):Option (qyo×Nat) :=
 if (rm R []).2=0∧((rm R []).1.length:Int)≤many-out.length then
  match gfr l k (many-out.length-(rm R []).1.length).toNat false node p with
  | .inl _=>none
  | .inr g=>some (srt (out++((rm R []).1++g.1)),g.2)
 else none
def rls1 (l:qyo)(node least:Int)(k:Nat)(many:Int)(out:qyo)(p:Nat):Option (qyo×Nat) :=
 if many-out.length=0 then some (out,p) else
 if 0<least then (rrns l p node least (many-out.length)).bind fun r=>rls2 l node k many out r.1 r.2 else rls2 l node k many out [] p
def rls (l:qyo)(p:Nat)(node:Int)(fr:qyo)(back least:Int)(k:Nat):Option (qyo×Nat) :=
 (rgam l p 300).bind fun m=>if m.1=0 then some ([],m.2) else
  if 0<back then (rblk l m.2 fr.length).bind fun b=>if (cpy fr b.1).2=0∧((cpy fr b.1).1.length:Int)≤m.1 then rls1 l node least k m.1 (cpy fr b.1).1 b.2 else none
  else rls1 l node least k m.1 [] m.2
theorem qq8 {α σ ρ:Type}(y:α)(k:α→Option ρ)(kl:σ→Option ρ):lbnd (some (.inl y)) k kl=k y:=rfl
theorem qeO {F:Nat}{c:Bool}{ρ:Type}(k kl:Unit→Option ρ):lbnd (kK F c) k kl=if c then k () else kl ():=by cases c <;> rfl
theorem qqX {l:qyo}{k:Nat}:∀ {m:Nat} {b:Bool} {a:Int} {p:Nat} {e:Int},gfr l k m b a p=.inl e→e≠0
 | 0,_,_,_,_,h=>by simp[gfr] at h
 | m+1,b,a,p,e,h=>by
  unfold gfr at h
  split at h
  ·rename_i h1;simp only[Sum.inl.injEq] at h;rw[← h];exact h1
  ·split at h
   ·simp only[Sum.inl.injEq] at h;rw[← h];decide
   ·split at h
    ·rename_i e' he;simp only[Sum.inl.injEq] at h;rw[← h];exact qqX he
    ·simp at h
theorem qqW {l:qyo}{k:Nat}(hl:Bit l)(hk:1≤k):∀ {m:Nat} {b:Bool} {a:Int} {p:Nat} {r:qyo×Nat},p≤l.length→gfr l k m b a p=.inr r→r.2≤l.length
 | 0,_,_,p,r,hp,h=>by simp only[gfr,Sum.inr.injEq] at h;subst h;exact hp
 | m+1,b,a,p,r,hp,h=>by
  unfold gfr at h
  split at h
  ·simp at h
  ·rename_i h1
   split at h
   ·simp at h
   ·split at h
    ·simp at h
    ·rename_i r' hr
     simp only[Sum.inr.injEq] at h
     rcases quw hl (k:=k) (p:=p) hk with h2 | ⟨g,q,h2,h3,h4⟩
     ·exact absurd h2 h1
     ·rw[h2] at hr
      rw[← h]
      exact qqW (r:=r') hl hk h4 hr
theorem qo2 {F k:Nat}(hF:2000000≤F)(h1:1≤k)(h2:k≤16){l:qyo}(hl:Bit l)(hm:l.length≤8192){node many:Int}(hn:Nd node){out:qyo}(ho:(out.length:Int)≤many)(hmm:many≤300){R:List (Int×Int)}{p:Nat}(hp:p≤l.length){x:Int×Int×Int}(hx:x.1=many) :
  Rd l (kP F (pk l) node (k:Int) x out R (l.length:Int) (p:Int)) (rls2 l node k many out R p):=by
 unfold kP rls2
 rw[qey (by omega),hx]
 simp only[qvK]
 have hlen:=qrK (R:=R) (rest:=[])
 have e1:isub .i64 many (out.length:Int)=many-out.length:=zB (by omega) (by omega)
 rw[qeO,e1]
 by_cases hc:(rm R []).2=0∧((rm R []).1.length:Int)≤many-out.length
 ·have e2:isub .i64 (many-(out.length:Int)) ((rm R []).1.length:Int)=((many-out.length-(rm R []).1.length).toNat:Int):=by rw[zB (by omega) (by omega)];omega
  rw[if_pos (by simpa using hc),if_pos hc,e2,qqY (by omega) hl hm h1 h2 (by omega) hp hn]
  simp only[qvK]
  rw[qeO]
  cases hg:gfr l k (many-out.length-(rm R []).1.length).toNat false node p with
  | inl e =>
   have:=qqX hg
   rw[if_neg (show ¬ ((gfI [] (Sum.inl e:Int ⊕ (qyo×Nat))).2.2 == 0)=true by simpa[gfI] using this)]
   exact ⟨_,rfl⟩
  | inr g =>
   have hgl:=qor hg
   rw[if_pos (show ((gfI [] (Sum.inr g:Int ⊕ (qyo×Nat))).2.2 == 0)=true by simp[gfI]),show (gfI [] (Sum.inr g:Int ⊕ (qyo×Nat))).1=g.1 from by simp[gfI],qnh (by omega) (by omega)]
   simp only[qvK]
   rw[qty (by simp;omega)]
   simp only[qvK]
   have hch:∀ {ρ:Type} (q:Option ρ),chk (decide ((srt (out++((rm R []).1++g.1))).length=(out++((rm R []).1++g.1)).length)) q=q:=fun q=>by unfold chk;rw[if_pos (decide_eq_true (qgL _))]
   rw[hch]
   rfl
 ·rw[if_neg (by simpa using hc),if_neg hc]
  exact ⟨_,rfl⟩
theorem qo1 {F k:Nat}(hF:2000000≤F)(h1:1≤k)(h2:k≤16){l:qyo}(hl:Bit l)(hm:l.length≤8192){node many least:Int}(hn:Nd node){out:qyo}(ho:(out.length:Int)≤many)(hmm:many≤300){p:Nat}(hp:p≤l.length){x:Int×Int×Int}(hx:x.1=many)(hle:least=0∨2≤least∧least≤300) :
  Rd l (kO F (pk l) node least (k:Int) x out (l.length:Int) (p:Int)) (rls1 l node least k many out p):=by
 unfold kO rls1
 have e1:isub .i64 x.1 (out.length:Int)=many-out.length:=by rw[hx];exact zB (by omega) (by omega)
 rw[e1]
 by_cases h0:many-out.length=0
 ·rw[if_pos (by simpa using h0),if_pos h0]
  rfl
 ·rw[if_neg (by simpa using h0),if_neg h0]
  by_cases hs:0<least
  ·rw[if_pos (by simpa using hs),if_pos hs]
   refine qef (qpZ (by omega) hl hm (by omega) (by omega) (by omega) (by omega) hn hp) (fun r hr=>?_) (fun z=>⟨_,rfl⟩)
   have hq:r.2≤l.length:=by
    unfold rrns at hr
    rw[qwp] at hr
    obtain ⟨g,hg,hr⟩:=hr
    exact (qlm (js hg).2.2.2 hr).2
   exact qo2 hF h1 h2 hl hm hn ho hmm hq hx
  ·rw[if_neg (by simpa using hs),if_neg hs]
   exact qo2 hF h1 h2 hl hm hn ho hmm hp hx
theorem qoW {l:qyo}{p:Nat}{many:Int}{b:qyo×Nat}(h:rblk l p many=some b):b.2≤l.length:=by
 unfold rblk at h
 rw[qwp] at h
 obtain ⟨g,hg,h⟩:=h
 exact (qoV (js hg).2.2.2 h).2
theorem qu4 {F k:Nat}(hF:2000000≤F)(h1:1≤k)(h2:k≤16){l:qyo}(hl:Bit l)(hm:l.length≤8192){node back least:Int}{fr:qyo}(hn:Nd node){p:Nat}(hp:p≤l.length)(hfr:0<back→gkc fr=0)(hle:least=0∨2≤least∧least≤300) :
  Rd l (yM F (l.length:Int) (pk l) (p:Int) node fr back least (k:Int)) (rls l p node fr back least k):=by
 unfold yM rls
 refine qef (qfw (by omega) hl hm hp (by omega) (by omega)) (fun m hg=>?_) (fun z=>⟨_,rfl⟩)
 have hok:=js hg
 by_cases h0:m.1=0
 ·rw[if_pos (by simpa using h0),if_pos h0]
  rfl
 ·rw[if_neg (by simpa using h0),if_neg h0]
  by_cases hb:0<back
  ·have hfl:=(zD.1 (hfr hb)).1
   rw[if_pos (by simpa using hb),if_pos hb]
   refine qef (qmD (by omega) hl hm (by omega) (by omega) hok.2.2.2) (fun b hbk=>?_) (fun z=>⟨_,rfl⟩)
   rw[qgr (by omega)]
   simp only[qvK]
   rw[qeO]
   by_cases hc:(cpy fr b.1).2=0∧((cpy fr b.1).1.length:Int)≤m.1
   ·rw[if_pos (by simpa using hc),if_pos hc]
    exact qo1 hF h1 h2 hl hm hn hc.2 (by omega) (qoW hbk) rfl hle
   ·rw[if_neg (by simpa using hc),if_neg hc]
    exact ⟨_,rfl⟩
  ·rw[if_neg (by simpa using hb),if_neg hb]
   exact qo1 hF h1 h2 hl hm hn (by simp;omega) (by omega) hok.2.2.2 rfl hle
theorem qrJ {k:Nat}{l:qyo}{node back least:Int}{fr:qyo}{p:Nat}{r:qyo×Nat}(hl:Bit l)(h1:1≤k)(h:rls l p node fr back least k=some r):r.2≤l.length:=by
 have h2:∀ {many:Int} {out:qyo} {R:List (Int×Int)} {q:Nat},q≤l.length→rls2 l node k many out R q=some r→r.2≤l.length:=by
  intro many out R q hq hr
  unfold rls2 at hr
  split at hr
  ·split at hr
   ·simp at hr
   ·rename_i g hg
    simp only[qvY] at hr
    rw[← hr]
    exact qqW (r:=g) hl h1 hq hg
  ·simp at hr
 have h3:∀ {many:Int} {out:qyo} {q:Nat},q≤l.length→rls1 l node least k many out q=some r→r.2≤l.length:=by
  intro many out q hq hr
  unfold rls1 at hr
  split at hr
  ·simp only[qvY] at hr;rw[← hr];exact hq
  ·split at hr
   ·rw[qwp] at hr
    obtain ⟨r',hr1,hr2⟩:=hr
    refine h2 ?_ hr2
    unfold rrns at hr1
    rw[qwp] at hr1
    obtain ⟨g,hg,hr1⟩:=hr1
    exact (qlm (js hg).2.2.2 hr1).2
   ·exact h2 hq hr
 unfold rls at h
 rw[qwp] at h
 obtain ⟨m,hm,h⟩:=h
 split at h
 ·simp only[qvY] at h;rw[← h];exact (js hm).2.2.2
 ·split at h
  ·rw[qwp] at h
   obtain ⟨b,hb,h⟩:=h
   split at h
   ·exact h3 (qoW hb) h
   ·simp at h
  ·exact h3 (js hm).2.2.2 h
def rdl (l:qyo)(p:Nat)(node:Int)(fr:qyo)(back least:Int)(k:Nat):Option (qyo×Nat) :=
 (rls l p node fr back least k).bind fun r=>if gkc r.1=0∧(enc node r.1 fr back least k).length≤8192∧p+(enc node r.1 fr back least k).length=r.2∧(l.drop p).take (enc node r.1 fr back least k).length=enc node r.1 fr back least k then some r else none
theorem qpe {F:Nat}{l e:qyo}(hl:Bit l)(hm:l.length≤8192)(he:Bit e)(hem:e.length≤8192){p:Nat}{x17:qyo×Int×Int}(h17:x17.2.1=(l.length:Int))(hpe:p+e.length≤l.length):∀ (k i:Nat),e.length<k+i→i≤e.length →
  (if (l.drop (p+i)).take (e.length-i)=e.drop i then zr F (pk l) (p:Int) x17 ((e.length:Int),pk e,false) k (i:Int)=some (x17.1,true,x17.2.1,x17.2.2)
   else ∃ a b,zr F (pk l) (p:Int) x17 ((e.length:Int),pk e,false) k (i:Int)=some ([],false,a,b))
 | 0,_,_,_=>by omega
 | k+1,i,h,hi=>by
  have hd:zr F (pk l) (p:Int) x17 ((e.length:Int),pk e,false) (k+1) (i:Int)=yW F (pk l) (p:Int) x17 ((e.length:Int),pk e,false) (zr F (pk l) (p:Int) x17 ((e.length:Int),pk e,false) k) (i:Int):=rfl
  rw[hd]
  unfold yW
  by_cases hlt:i<e.length
  ·rw[if_pos (show decide ((i:Int)<(((e.length:Int),pk e,false):Int×qyo×Bool).1)=true by simpa using hlt)]
   simp only
   rw[qjJ he (by omega) hlt,h17,jr (by omega),qjJ hl (by omega) (show p+i<l.length by omega)]
   simp only[qvK]
   rw[qeO]
   have ih:=qpe (F:=F) hl hm he hem h17 hpe k (i+1) (by omega) (by omega)
   have hstep:((l.drop (p+i)).take (e.length-i)=e.drop i)↔(e[i]=l[p+i]∧(l.drop (p+(i+1))).take (e.length-(i+1))=e.drop (i+1)):=by
    rw[qvV (show p+i<l.length by omega),qvV hlt,show e.length-i=(e.length-(i+1))+1 from by omega,qx3,qxi,show p+i+1=p+(i+1) from by omega]
    constructor
    ·rintro ⟨a,b⟩;exact ⟨a.symm,b⟩
    ·rintro ⟨a,b⟩;exact ⟨a.symm,b⟩
   rw[qC (by omega)]
   by_cases hq:e[i]=l[p+i]
   ·rw[if_pos (show (e[i] == l[p+i])=true by simpa using hq)]
    by_cases hr:(l.drop (p+(i+1))).take (e.length-(i+1))=e.drop (i+1)
    ·rw[if_pos (hstep.2 ⟨hq,hr⟩)]
     rw[if_pos hr] at ih
     rw[h17] at ih
     exact ih
    ·rw[if_neg (fun hh=>hr (hstep.1 hh).2)]
     rw[if_neg hr] at ih
     exact ih
   ·rw[if_neg (show ¬ (e[i] == l[p+i])=true by simpa using hq),if_neg (fun hh=>hq (hstep.1 hh).1)]
    exact ⟨_,_,rfl⟩
  ·obtain rfl:i=e.length:=by omega
   rw[if_neg (show ¬ decide (((e.length:Nat):Int)<(((e.length:Int),pk e,false):Int×qyo×Bool).1)=true by simp)]
   rw[if_pos (by simp)]
   rfl
theorem qsW {node:Int}{x fr:qyo}{back least:Int}{k:Nat}:1≤(enc node x fr back least k).length:=by
 unfold enc
 rw[qvN,qkX];omega
theorem qrM {F k:Nat}(hF:2000000≤F)(h1:1≤k)(h2:k≤16){l:qyo}(hl:Bit l)(hm:l.length≤8192){node back least:Int}{fr:qyo}(hn:Nd node){p:Nat}(hp:p≤l.length)(hfr:0<back→gkc fr=0)(hle:least=0∨2≤least∧least≤300) :
  match rdl l p node fr back least k with
  | none=>∃ a b,yN F (l.length:Int) (pk l) (p:Int) node fr back least (k:Int)=some ([],false,a,b)
  | some r=>yN F (l.length:Int) (pk l) (p:Int) node fr back least (k:Int)=some (r.1,true,(l.length:Int),(r.2:Int)):=by
 have hL:=qu4 hF h1 h2 hl hm hn hp hfr hle
 unfold yN rdl
 cases hr:rls l p node fr back least k with
 | none =>
  rw[hr] at hL
  obtain ⟨z,hz⟩:=hL
  rw[hz]
  exact ⟨_,_,rfl⟩
 | some r =>
  rw[hr] at hL
  have hL':yM F (l.length:Int) (pk l) (p:Int) node fr back least (k:Int)=some (.inl (r.1,(l.length:Int),(r.2:Int))):=hL
  have hat:=qrJ hl h1 hr
  rw[hL',qq8,jT (by omega)]
  simp only[qvK]
  rw[qeO]
  by_cases hg:gkc r.1=0
  ·obtain ⟨e,f,he,hrep⟩:=qm2 hF h1 h2 (x:=r.1) hn hg hfr hle
   have hen:=qsW (node:=node) (x:=r.1) (fr:=fr) (back:=back) (least:=least) (k:=k)
   rw[if_pos (show (gkc r.1 == 0)=true by simpa using hg),he]
   simp only[qvK]
   cases f with
   | true =>
    have hfl:=hrep.full rfl
    rw[qeO]
    rw[if_neg (fun hh=>by omega)]
    exact ⟨_,_,rfl⟩
   | false =>
    have hel:=hrep.ok rfl
    have heb:=hrep.bit
    have hem:=hrep.len
    rw[hel] at heb hem ⊢
    simp only[qx7,if_true]
    rw[zB (by omega) (by omega),qeO]
    by_cases hq:p+(enc node r.1 fr back least k).length=r.2
    ·rw[if_pos (show (((enc node r.1 fr back least k).length:Int) == (r.2:Int)-p)=true by simp;omega)]
     unfold yX
     have:=qpe (F:=F) hl hm heb hem (p:=p) (x17:=(r.1,(l.length:Int),(r.2:Int))) rfl (by omega) F 0 (by omega) (by omega)
     simp only[qwY,qxC,qv5] at this
     by_cases hb:(l.drop p).take (enc node r.1 fr back least k).length=enc node r.1 fr back least k
     ·rw[if_pos ⟨hg,hem,hq,hb⟩]
      rw[if_pos hb] at this
      exact this
     ·rw[if_neg (fun hh=>hb hh.2.2.2)]
      rw[if_neg hb] at this
      exact this
    ·rw[if_neg (show ¬ (((enc node r.1 fr back least k).length:Int) == (r.2:Int)-p)=true by simp;omega),if_neg (fun hh=>hq hh.2.2.1)]
     exact ⟨_,_,rfl⟩
  ·rw[if_neg (show ¬ (gkc r.1 == 0)=true by simpa using hg),if_neg (fun hh=>hg hh.1)]
   exact ⟨_,_,rfl⟩
theorem qfx {n:Nat}{most:Int}(hn:n≤1099511627776)(hm:(n:Int)≤most)(P R:qyo):rgam (P++(ga n++R)) P.length most=some ((n:Int),P.length+(ga n).length):=by
 unfold rgam
 rw[← qvM,qvp hn]
 simp only[true_and]
 rw[if_pos hm,qvP]
theorem qlk {n:Int}{most:Int}(h0:0≤n)(hn:n≤1099511627776)(hm:n≤most)(P R:qyo):rgam (P++(ga n.toNat++R)) P.length most=some (n,P.length+(ga n.toNat).length):=by
 rw[qfx (by omega) (by omega)]
 congr 2
 omega
theorem qoU {many : Int} (hmany : many ≤ 1000000) : ∀ (bs : qyo) (b : Bool) (P R : qyo), okB (!b) bs = true → (∀ n ∈ bs, n ≤ many) → rbl (P ++ (encBs b bs ++ R)) many bs.length b P.length = some (bs, P.length + (encBs b bs).length)
  | [], b, P, R, _, _ => by simp [rbl, encBs]
  | n :: bs, b, P, R, h, hb => by
    rw [qfk] at h
    simp only [qwq, qw3, decide_eq_true_eq, qyb] at h
    have hn := hb n (by simp)
    have hv : 0 ≤ n - (if b = true then 1 else 0) := by
      cases b with
      | false => simp; exact h.1.1
      | true => rcases h.1.2 with h2 | h2; · simp at h2
                · simp; omega
    unfold encBs
    simp only [qwa, rbl, qvM]
    rw [qlk hv (by split <;> omega) (by split <;> omega)]
    simp only [qvK]
    have := qoU hmany bs true (P ++ ga (n - if b = true then 1 else 0).toNat) R (by simpa using h.2) (fun z hz => hb z (by simp [hz]))
    simp only [qvM, qvN] at this
    rw [this]
    simp only [qvK, qvN]
    congr 2
    · congr 1; split <;> omega
    · omega
theorem qrC {many:Int}(hmany:many≤1000000){bs:qyo}(P R:qyo)(h:okB true bs=true)(hb:∀ n∈bs,n≤many)(hl:(bs.length:Int)≤many+1):rblk (P++(encB bs++R)) P.length many=some (bs,P.length+(encB bs).length):=by
 unfold rblk encB
 rw[qvM,qfx (by omega) (by omega)]
 simp only[qvK,qvP]
 have:=qoU hmany bs false (P++ga bs.length) R (by simpa using h) hb
 simp only[qvM,qvN] at this
 rw[this]
 congr 2
 rw[qvN];omega
theorem qo5 {least many:Int}(hle:0≤least):∀ (R:List (Int×Int)) (b:Bool) (a q:Int) (P T:qyo),(∀ r∈R,RunOk r∧least≤r.2∧r.2-least≤many)→Nd a→Sep q R→(b=true→a+1≤q) →
  rrn (P++(encRs least b a R++T)) least many R.length b a P.length=some (R,P.length+(encRs least b a R).length)
 | [],_,_,_,P,T,_,_,_,_=>by simp[rrn,encRs]
 | r::R,b,a,q,P,T,hR,ha,hs,hb=>by
  obtain ⟨hro,hrl,hrm⟩:=hR r (by simp)
  obtain ⟨s1,s2,s3⟩:=hs
  unfold RunOk at hro
  unfold Nd at ha
  have hf:=qie (x:=r.1-a) (by omega)
  have hf2:foldOf (r.1-a)≤2097152:=by unfold foldOf;split <;> omega
  have hv:0≤(if b=true then r.1-a-2 else foldOf (r.1-a))∧(if b=true then r.1-a-2 else foldOf (r.1-a))≤2097152:=by
   cases b with
   | false=>simp;omega
   | true=>have:=hb rfl;simp;omega
  unfold encRs
  simp only[qwa,rrn,qvM]
  rw[qlk hv.1 (by omega) hv.2]
  simp only[qvK]
  have e1:=qlk (n:=r.2-least) (most:=many) (by omega) (by omega) hrm (P++ga (if b=true then r.1-a-2 else foldOf (r.1-a)).toNat) (encRs least true (r.1+r.2-1) R++T)
  simp only[qvM,qvN] at e1
  rw[e1]
  simp only[qvK]
  have e2:a+(if b=true then (if b=true then r.1-a-2 else foldOf (r.1-a))+2 else zR (if b=true then r.1-a-2 else foldOf (r.1-a)))=r.1:=by
   cases b with
   | false=>simp only[qv0,if_false];rw[qhE];omega
   | true=>simp only[if_true];omega
  rw[e2,show r.2-least+least=r.2 from by omega]
  have:=qo5 hle R true (r.1+r.2-1) (r.1+r.2) ((P++ga (if b=true then r.1-a-2 else foldOf (r.1-a)).toNat)++ga (r.2-least).toNat) T (fun z hz=>hR z (by simp[hz])) (by unfold Nd;omega) s3 (fun _=>by omega)
  simp only[qvM,qvN] at this
  rw[show P.length+(ga (if b=true then r.1-a-2 else foldOf (r.1-a)).toNat).length+(ga (r.2-least).toNat).length=P.length+((ga (if b=true then r.1-a-2 else foldOf (r.1-a)).toNat).length+(ga (r.2-least).toNat).length) from by omega,this]
  simp only[qvK,qvN]
  congr 2
  omega
theorem qjZ {least q:Int}(hle:2≤least):∀ {R:List (Int×Int)},Sep q R→(∀ r∈R,least≤r.2)→least*(R.length:Int)≤((flat R).length:Int)
 | [],_,_=>by simp[flat]
 | r::R,hs,hR=>by
  have h1:=hR r (by simp)
  have:=qjZ hle hs.2.2 (fun z hz=>hR z (by simp[hz]))
  rw[kn,qvN,qdD,qwa]
  rw[show ((R.length+1:Nat):Int)=(R.length:Int)+1 from by omega,Int.mul_add]
  omega
theorem qrN {least many node q:Int}(hle:2≤least){R:List (Int×Int)}(P T:qyo)(hR:∀ r∈R,RunOk r∧least≤r.2)(hn:Nd node)(hs:Sep q R)(hm:((flat R).length:Int)≤many)(hmm:many≤300) :
  rrns (P++(encR least node R++T)) P.length node least many=some (R,P.length+(encR least node R).length):=by
 unfold rrns encR
 have h1:=qjZ hle hs (fun r hr=>(hR r hr).2)
 have h2:(R.length:Int)≤many/least:=by
  rw[Int.le_ediv_iff_mul_le (by omega)]
  rw[Int.mul_comm] at h1
  omega
 have h3:many/least≤many:=qxX _ (by omega)
 rw[qvM,qfx (by omega) h2]
 simp only[qvK,qvP]
 have:=qo5 (least:=least) (many:=many) (by omega) R false node q (P++ga R.length) T (fun r hr=>⟨(hR r hr).1,(hR r hr).2,by have:=qg5 hr;omega⟩) hn hs (by simp)
 simp only[qvM,qvN] at this
 rw[this]
 congr 2
 rw[qvN];omega
theorem qok {rest:qyo}{least:Int}(h:gkc rest=0):skc (encO rest least)=0∧Ris (-1) (encS rest least)∧(flat (encO rest least)++encS rest least).Perm rest∧(flat (encO rest least)).Pairwise (·≤·):=by
 obtain ⟨hm,hs⟩:=zD.1 h
 unfold encO encS
 by_cases hl:0<least
 ·rw[if_pos hl,if_pos hl]
  exact ⟨qtF hm hs _,qlo hs _,qmK _ _,qoS (yP (qlo hs _)).1⟩
 ·rw[if_neg hl,if_neg hl]
  exact ⟨by decide,hs,by simp[flat],by simp[flat]⟩
theorem qmG {k:Nat}(h1:1≤k)(h2:k≤16){node least:Int}(hn:Nd node){rest out x:qyo}(hr:gkc rest=0)(hx:gkc x=0)(hp:(out++rest).Perm x)(P T:qyo) :
  rls2 (P++(zes k (gp false node (encS rest least))++T)) node k x.length out (encO rest least) P.length=some (x,P.length+(zes k (gp false node (encS rest least))).length):=by
 obtain ⟨e1,e2,e3,e4⟩:=qok (least:=least) hr
 have hrm:=(zD.1 hr).1
 have hlen:=e3.length_eq
 have hlen2:=hp.length_eq
 rw[qvN] at hlen hlen2
 have hrmm:rm (encO rest least) []=(flat (encO rest least),0):=qhe e1 (by decide) (by rw[qoi];simp) (by simp) e4 (by omega)
 unfold rls2
 rw[hrmm]
 simp only[true_and]
 rw[if_pos (by omega),show ((x.length:Int)-out.length-(flat (encO rest least)).length).toNat=(gp false node (encS rest least)).length from by rw[qkZ];omega]
 have h40:L40 (gp false node (encS rest least)):=fun z hz=>by have:=qmi hn e2 (by simp) z hz;omega
 have:=qos h1 h2 P T h40 (qt9 (b:=false) hn e2 (by simp))
 rw[qvM] at this
 rw[this]
 simp only
 have hpx:(out++(flat (encO rest least)++encS rest least)).Perm x:=(List.Perm.append_left out e3).trans hp
 rw[qiU hpx (qoS (qig hx))]
theorem qmF {k:Nat}(h1:1≤k)(h2:k≤16){node least:Int}(hn:Nd node)(hle:least=0∨2≤least∧least≤300){rest out x:qyo}(hr:gkc rest=0)(hx:gkc x=0)(ho:out.Pairwise (·≤·))(hp:(out++rest).Perm x)(P T:qyo) :
  rls1 (P++(encL node rest least k++T)) node least k x.length out P.length=some (x,P.length+(encL node rest least k).length):=by
 have hlen2:=hp.length_eq
 have hxm:=(zD.1 hx).1
 obtain ⟨hrm,hrs⟩:=zD.1 hr
 rw[qvN] at hlen2
 unfold rls1 encL
 by_cases h0:rest=[]
 ·subst h0
  simp only[qwN,qwY] at hlen2
  rw[if_pos (by omega),if_pos rfl]
  rw[qwL] at hp
  have e1:=qiU hp (qoS (qig hx))
  have e2:=qiU (qwl out) ho
  rw[e2] at e1
  rw[e1];simp
 ·have hl0:rest.length≠0:=by simpa using h0
  rw[if_neg (by omega),if_neg h0]
  by_cases hl:0<least
  ·obtain ⟨e1,e2,e3,e4⟩:=qok (least:=least) hr
   have hlen:=e3.length_eq
   rw[qvN] at hlen
   obtain ⟨r1,r2⟩:=qrO hrm hrs
   have hO:encO rest least=spO least (rs rest):=by unfold encO;rw[if_pos hl]
   rw[if_pos hl,if_pos hl,qvM,qrN (q:=-1) (by omega) _ _ (fun r hrr=>by rw[hO] at hrr;exact ⟨r2 r (qw8.1 hrr).1,by simpa using (qw8.1 hrr).2⟩) hn (by rw[hO];exact qdZ _ r1) (by omega) (by omega)]
   simp only[qvK]
   have:=qmG (least:=least) h1 h2 hn hr hx hp (P++encR least node (encO rest least)) T
   simp only[qvM,qvN] at this
   rw[this,qvN]
   congr 2
   omega
  ·rw[if_neg hl,if_neg hl,qv8]
   have hO:encO rest least=[]:=by unfold encO;rw[if_neg hl]
   have:=qmG (least:=least) h1 h2 hn hr hx hp P T
   rw[hO] at this
   exact this
end Go.Proofs.YtmoikolponkmpaaGreat
