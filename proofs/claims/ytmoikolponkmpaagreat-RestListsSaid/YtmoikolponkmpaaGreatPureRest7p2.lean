/- Plain facts of what the functions of this seat compute, part 2. -/
import Derived.Test.YtmoikolponkmpaaGreatPureRest7
import Derived.KernelRfl
import Derived.Lib.SlicesCompact
open BitVec renaming ofNat→qwd, ofInt→qwi, toNat_ofNat→qwB
open Bool renaming false_eq_true→qv0, not_true→qwc, or_eq_true→qw3
open Int renaming toNat_natCast→qvP, eq_ofNat_of_zero_le→qvS, natCast_mul→qw2
open List renaming getElem?_eq_getElem→qvL, append_assoc→qvM, length_append→qvN, mem_of_getElem?→qvO, mem_cons→qvR, replicate→qvU, drop_eq_getElem_cons→qvV, drop_eq_nil_of_le→qv1, drop_zero→qv5, getElem?_eq_none→qv6, nil_append→qv8, length_cons→qwa, length_take→qwb, getElem_mem→qwe, mem_cons_self→qwf, getD_eq_getElem?_getD→qwg, range→qwm, length_replicate→qww, take_append_drop→qwD, replicate_succ→qwG, getElem?_map→qwK, append_nil→qwL, pairwise_cons→qwM, length_nil→qwN, cons_append→qwQ, drop_succ_cons→qwV, map_append→qw6, getElem?_range→qxt, take_add_one→qxA, length_filter_le→qxD, length→qxF, range_succ→qx2
open List.cons renaming injEq→qxi, inj→qyi
open Nat renaming le_refl→qv3, mod_eq_of_lt→qwj, mul_le_mul_right→qwk, zero_le→qwn, pow_le_pow_right→qwu, zero_add→qwA, add_sub_cancel→qwC, succ_mul→qwI, div_le_self→qwW, pow_pos→qw5, min_eq_left→qw7, div_le_div_right→qw9, add_mul→qxe, mul_comm→qxg, add_comm→qxq, one_mul→qxy, div_mul_le_self→qxG, div_add_mod→qx1, mul_le_mul→qx6
open Option renaming bind_some→qvK, map_some→qwo, bind_eq_some_iff→qwp
open Option.some renaming injEq→qvY, inj→qxK
open Prod.mk renaming injEq→qxa
namespace Go.Proofs.YtmoikolponkmpaaGreat
open Go SX
variable {F:Nat} {rec68:(List (Int×Int)×qyo×Int)→Option (List (Int×Int)×qyo)} {l:qyo} {least:Int} {o:List (Int×Int)} {rest:qyo} {i:Int}
variable {F:Nat} {x1 x4:qyo} {x7:Int} {x8:qyo} {x11 x12 x13:Int} {x14:List (qyo)} {x17 x18 x60:Int} {x55 x58 x63:qyo×qyo}
theorem qtq {k:Nat}(h1:1≤k)(h2:k≤16){node back least:Int}{x fr:qyo}(hn:Nd node)(hle:least=0∨2≤least∧least≤300)(hx:gkc x=0)(hfr:0<back→gkc fr=0)(P T:qyo) :
  rls (P++(enc node x fr back least k++T)) P.length node fr back least k=some (x,P.length+(enc node x fr back least k).length):=by
 have hxm:=(zD.1 hx).1
 unfold rls enc rstO
 rw[qvM,qfx (by omega) (by omega)]
 simp only[qvK]
 by_cases h0:x=[]
 ·subst h0
  rw[if_pos (by simp),if_pos rfl]
  simp
 ·have hx0:x.length≠0:=by simpa using h0
  rw[if_neg (by omega),if_neg h0]
  by_cases hb:0<back
  ·have hfg:=hfr hb
   have hfl:=(zD.1 hfg).1
   rw[if_pos hb,if_pos hb,if_pos hb]
   have htl:=qhS fr x
   have hok:okB true (tbs fr x)=true:=qit _ _ _ _ (by omega) (Or.inl rfl)
   have hsum:bsum (tbs fr x)≤0+(fr.map (hasB x)).length:=qgq _ _ _ (by omega)
   rw[List.length_map] at hsum
   have e1:=qrC (many:=(fr.length:Int)) (by omega) (bs:=tbs fr x) (P++ga x.length) (encL node (rst fr x) least k++T) hok (fun n hnm=>by have:=qk7 hok n hnm;omega) (by omega)
   simp only[qvM,qvN] at e1
   rw[qvM,e1]
   simp only[qvK]
   rw[qsU hfg]
   have hbe:=qrj hfg hx
   have hfx:(fr.filter (hasB x)).length≤x.length:=by rw[hbe];exact qxD _ _
   rw[if_pos ⟨rfl,by simp only;omega⟩]
   have hperm:(fr.filter (hasB x)++rst fr x).Perm x:=by rw[hbe];exact qpI _ _
   have:=qmF h1 h2 hn hle (qo8 hx) hx (qoS ((qig hfg).sublist List.filter_sublist)) hperm ((P++ga x.length)++encB (tbs fr x)) T
   simp only[qvM,qvN] at this
   simp only
   rw[show P.length+(ga x.length).length+(encB (tbs fr x)).length=P.length+((ga x.length).length+(encB (tbs fr x)).length) from by omega,this]
   congr 2
   simp only[qvN];omega
  ·rw[if_neg hb,if_neg hb,if_neg hb,qv8]
   have:=qmF h1 h2 hn hle hx hx (out:=[]) (by simp) (by simp) (P++ga x.length) T
   simp only[qvM,qvN] at this
   rw[this,qvN]
   congr 2
   omega
def hcB (back least k:Int):Prop:=back<0∨7<back∨least<0∨least=1∨300<least∨k<1∨16<k
instance hcDec (back least k:Int):Decidable (hcB back least k):=inferInstanceAs (Decidable (_∨_))
def hcE (back least k:Int):Int:=if hcB back least k then 3 else 0
def scE (node:Int)(fr:qyo)(back:Int):Int:=if Nd node then (if 0<back then gkc fr else 0) else 3
theorem qew {F:Nat}{back least k:Int}:vy F back least k=some (hcE back least k):=by
 unfold vy hcE
 by_cases h:hcB back least k
 ·rw[if_pos (by unfold hcB at h;simp only[qw3,decide_eq_true_eq,beq_iff_eq];omega),if_pos h]
 ·rw[if_neg (by unfold hcB at h;simp only[qw3,decide_eq_true_eq,beq_iff_eq];omega),if_neg h]
theorem qka {F:Nat}(hF:20000≤F){node back least k:Int}{fr:qyo}:qcj F node fr back least k=some (scE node fr back):=by
 unfold qcj scE
 rw[qoI]
 by_cases h:Nd node
 ·rw[if_neg (by simp[h]),if_pos h]
  by_cases hb:0<back
  ·rw[if_pos (by simpa using hb),if_pos hb,jT hF];rfl
  ·rw[if_neg (by simpa using hb),if_neg hb]
 ·rw[if_pos (by simp[h]),if_neg h]
theorem qcN {back least k:Int}(h:hcE back least k=0):(0≤back∧back≤7)∧(least=0∨2≤least∧least≤300)∧∃ k':Nat,k=(k':Int)∧1≤k'∧k'≤16:=by
 unfold hcE at h
 split at h
 ·simp at h
 ·rename_i h1
  unfold hcB at h1
  exact ⟨by omega,by omega,k.toNat,by omega,by omega,by omega⟩
theorem qrV {node back:Int}{fr:qyo}(h:scE node fr back=0):Nd node∧(0<back→gkc fr=0):=by
 unfold scE at h
 split at h
 ·rename_i hn
  refine ⟨hn,fun hb=>?_⟩
  rw[if_pos hb] at h;exact h
 ·simp at h
theorem qrU {node back:Int}{fr:qyo}(h:Nd node)(h2:0<back→gkc fr=0):scE node fr back=0:=by
 unfold scE
 rw[if_pos h]
 split
 ·rename_i hb;exact h2 hb
 ·rfl
def srE (m:Int)(b:qyo)(p node:Int)(fr:qyo)(back least k:Int):Int:=if hcE back least k≠0 then hcE back least k else if raOf m b p≠0 then raOf m b p else scE node fr back
def sr (m:Int)(b:qyo)(p node:Int)(fr:qyo)(back least k:Int):qyo×Int×Int :=
 if srE m b p node fr back least k≠0 then ([],0,srE m b p node fr back least k) else
 match rdl (bl b m.toNat) p.toNat node fr back least k.toNat with
 | none=>([],0,1)
 | some r=>(r.1,(r.2:Int),0)
theorem qiP {F k:Nat}(hF:2000000≤F)(h1:1≤k)(h2:k≤16){l:qyo}(hl:Bit l)(hm:l.length≤8192){node back least:Int}{fr:qyo}(hn:Nd node){p:Nat}(hp:p≤l.length)(hfr:0<back→gkc fr=0)(hle:least=0∨2≤least∧least≤300) :
  vz F (l.length:Int) (pk l) (p:Int) node fr back least (k:Int)=some (match rdl l p node fr back least k with | none=>([],0,1) | some r=>(r.1,(r.2:Int),0)):=by
 have:=qrM hF h1 h2 hl hm hn hp hfr hle
 unfold vz
 cases h:rdl l p node fr back least k with
 | none =>
  rw[h] at this
  obtain ⟨a,b,e⟩:=this
  rw[e];rfl
 | some r =>
  rw[h] at this
  simp only at this
  rw[this];rfl
theorem qva {m p node back least k:Int}{b fr:qyo}(h:srE m b p node fr back least k=0):hcE back least k=0∧raOf m b p=0∧scE node fr back=0:=by
 unfold srE at h
 by_cases h1:hcE back least k=0
 ·rw[if_neg (by simp[h1])] at h
  by_cases h2:raOf m b p=0
  ·rw[if_neg (by simp[h2])] at h;exact ⟨h1,h2,h⟩
  ·rw[if_pos h2] at h;exact absurd h h2
 ·rw[if_pos h1] at h;exact absurd h h1
theorem qiT {F:Nat}(hF:2000000≤F){m p node back least k:Int}{b fr:qyo}(hb:U8s b)(hm:I64 m)(lb:b.length≤9223372036854775807):qbP F m b p node fr back least k=some (sr m b p node fr back least k):=by
 have hj:qaP F m b p node fr back least k (srE m b p node fr back least k)=some (sr m b p node fr back least k):=by
  unfold qaP sr
  by_cases h:srE m b p node fr back least k=0
  ·rw[if_neg (by simp[h]),if_neg (by simp[h])]
   obtain ⟨h1,h2,h3⟩:=qva h
   obtain ⟨k1,k2,k',rfl,k3,k4⟩:=qcN h1
   obtain ⟨n1,n2⟩:=qrV h3
   rcases qrz hb (m:=m) (a:=p) with hx | ⟨l,i,hl,hlm,rfl,rfl,rfl,hi⟩
   ·exact absurd h2 hx
   ·rw[qiP hF k3 k4 hl hlm n1 hi n2 k2]
    simp only[qvK,qvP,qcn hl]
  ·rw[if_pos (by simpa using h),if_pos h]
 unfold qbP
 rw[qew]
 simp only[qvK]
 by_cases h1:hcE back least k=0
 ·rw[if_pos (by simpa using h1),qpG hb hm lb]
  simp only[qvK]
  unfold qaO
  by_cases h2:raOf m b p=0
  ·have e:srE m b p node fr back least k=scE node fr back:=by unfold srE;rw[if_neg (by simp[h1]),if_neg (by simp[h2])]
   rw[if_pos (by simpa using h2),qka (by omega),← e]
   exact hj
  ·have e:srE m b p node fr back least k=raOf m b p:=by unfold srE;rw[if_neg (by simp[h1]),if_pos h2]
   rw[if_neg (by simpa using h2),← e]
   exact hj
 ·have e:srE m b p node fr back least k=hcE back least k:=by unfold srE;rw[if_pos h1]
  rw[if_neg (by simpa using h1)]
  unfold qaO
  rw[if_neg (by simpa using h1),← e]
  exact hj
def swE (node:Int)(x fr:qyo)(back least k:Int):Int:=if hcE back least k≠0 then hcE back least k else if ¬ Nd node then 3 else if gkc x≠0 then gkc x else scE node fr back
def sw (node:Int)(x fr:qyo)(back least k:Int):Int×qyo×Int :=
 if swE node x fr back least k≠0 then (0,[],swE node x fr back least k) else
 if 8192<(enc node x fr back least k.toNat).length then (0,[],8) else (((enc node x fr back least k.toNat).length:Int),pk (enc node x fr back least k.toNat),0)
theorem qvd {node back least k:Int}{x fr:qyo}(h:swE node x fr back least k=0):hcE back least k=0∧Nd node∧gkc x=0∧(0<back→gkc fr=0):=by
 unfold swE at h
 by_cases h1:hcE back least k=0
 ·rw[if_neg (by simp[h1])] at h
  by_cases h2:Nd node
  ·rw[if_neg (by simpa using h2)] at h
   by_cases h3:gkc x=0
   ·rw[if_neg (by simp[h3])] at h
    exact ⟨h1,h2,h3,(qrV h).2⟩
   ·rw[if_pos h3] at h;exact absurd h h3
  ·rw[if_pos h2] at h;simp at h
 ·rw[if_pos h1] at h;exact absurd h h1
theorem qr7 {node back least k:Int}{x fr:qyo}(h1:hcE back least k=0)(h2:Nd node)(h3:gkc x=0)(h4:0<back→gkc fr=0):swE node x fr back least k=0:=by
 unfold swE
 rw[if_neg (by simp[h1]),if_neg (by simpa using h2),if_neg (by simp[h3])]
 exact qrU h2 h4
theorem qfA {F:Nat}(hF:2000000≤F){node back least k:Int}{x fr:qyo}:jo F node x fr back least k=some (sw node x fr back least k):=by
 have hj:jG F node x fr back least k (swE node x fr back least k)=some (sw node x fr back least k):=by
  unfold jG sw
  by_cases h:swE node x fr back least k=0
  ·rw[if_neg (by simp[h]),if_neg (by simp[h])]
   obtain ⟨h1,h2,h3,h4⟩:=qvd h
   obtain ⟨k1,k2,k',rfl,k3,k4⟩:=qcN h1
   obtain ⟨l,f,e,hr⟩:=qm2 hF k3 k4 h2 h3 h4 k2
   rw[e]
   simp only[qvK,qvP]
   cases f with
   | true=>have:=hr.full rfl;rw[if_pos rfl,if_pos this]
   | false =>
    have e1:=hr.ok rfl
    have e2:=hr.len
    rw[e1] at e2 ⊢
    rw[if_neg (by simp),if_neg (by omega)]
  ·rw[if_pos (by simpa using h),if_pos h]
 unfold jo
 rw[qew]
 simp only[qvK]
 by_cases h1:hcE back least k=0
 ·rw[if_pos (by simpa using h1),qoI]
  unfold jH
  by_cases h2:Nd node
  ·rw[if_neg (by simp[h2])]
   unfold vg
   rw[if_pos (by simpa using h1),jT (by omega)]
   simp only[qvK]
   unfold vh
   by_cases h3:gkc x=0
   ·have e:swE node x fr back least k=scE node fr back:=by unfold swE;rw[if_neg (by simp[h1]),if_neg (by simpa using h2),if_neg (by simp[h3])]
    rw[if_pos (by simpa using h3),qka (by omega),← e]
    exact hj
   ·have e:swE node x fr back least k=gkc x:=by unfold swE;rw[if_neg (by simp[h1]),if_neg (by simpa using h2),if_pos h3]
    rw[if_neg (by simpa using h3),← e]
    exact hj
  ·have e:swE node x fr back least k=3:=by unfold swE;rw[if_neg (by simp[h1]),if_pos h2]
   rw[if_pos (by simp[h2])]
   unfold vg
   rw[if_neg (by decide)]
   unfold vh
   rw[if_neg (by decide),← e]
   exact hj
 ·have e:swE node x fr back least k=hcE back least k:=by unfold swE;rw[if_pos h1]
  rw[if_neg (by simpa using h1)]
  unfold jH
  rw[if_neg (by simp)]
  unfold vg
  rw[if_neg (by simpa using h1)]
  unfold vh
  rw[if_neg (by simpa using h1),← e]
  exact hj
theorem qlj {k:Nat}(h1:1≤k)(h2:k≤16){node back least:Int}{x fr:qyo}(hn:Nd node)(hle:least=0∨2≤least∧least≤300)(hx:gkc x=0)(hfr:0<back→gkc fr=0)(P T:qyo)(hL:(enc node x fr back least k).length≤8192) :
  rdl (P++(enc node x fr back least k++T)) P.length node fr back least k=some (x,P.length+(enc node x fr back least k).length):=by
 unfold rdl
 rw[qtq h1 h2 hn hle hx hfr]
 simp only[qvK]
 rw[if_pos (by refine ⟨hx,hL,?_,?_⟩ <;> simp)]
theorem qmE {k:Nat}{l:qyo}{p:Nat}{node back least:Int}{fr:qyo}{r:qyo×Nat}(hl:Bit l)(h1:1≤k)(h:rdl l p node fr back least k=some r) :
  gkc r.1=0∧(enc node r.1 fr back least k).length≤8192∧p+(enc node r.1 fr back least k).length=r.2∧(l.drop p).take (enc node r.1 fr back least k).length=enc node r.1 fr back least k∧r.2≤l.length:=by
 unfold rdl at h
 rw[qwp] at h
 obtain ⟨r',h2,h⟩:=h
 split at h
 ·rename_i hc
  simp only[qvY] at h
  subst h
  exact ⟨hc.1,hc.2.1,hc.2.2.1,hc.2.2.2,qrJ hl h1 h2⟩
 ·simp at h
theorem qhN {node back least:Int}{x fr:qyo}{k:Nat}:Bit (enc node x fr back least k):=by
 have hn:Bit ([]:qyo):=by intro z hz;simp at hz
 have h1:∀ (bs:qyo) (b:Bool),Bit (encBs b bs):=by
  intro bs
  induction bs with
  | nil=>intro b;exact hn
  | cons n bs ih=>intro b;exact kp (qeL _) (ih true)
 have h2:∀ (R:List (Int×Int)) (b:Bool) (a:Int),Bit (encRs least b a R):=by
  intro R
  induction R with
  | nil=>intro b a;exact hn
  | cons r R ih=>intro b a;exact kp (qeL _) (kp (qeL _) (ih true _))
 unfold enc encL encB encR
 refine kp (qeL _) ?_
 split
 ·exact hn
 ·refine kp ?_ ?_
  ·split
   ·exact kp (qeL _) (h1 _ _)
   ·exact hn
  ·split
   ·exact hn
   ·refine kp ?_ (qpu _ _)
    split
    ·exact kp (qeL _) (h2 _ _ _)
    ·exact hn
theorem qut {node back least k:Int}{x fr:qyo}(h:swE node x fr back least k=0)(h2:(enc node x fr back least k.toNat).length≤8192):sw node x fr back least k=(((enc node x fr back least k.toNat).length:Int),pk (enc node x fr back least k.toNat),0):=by
 unfold sw;rw[if_neg (by simp[h]),if_neg (by omega)]
theorem qvD {l:qyo}(hl:Bit l)(hm:l.length≤8192){p:Nat}(hp:p≤l.length){node back least k:Int}{fr:qyo}(h1:hcE back least k=0)(h2:scE node fr back=0) :
  sr (l.length:Int) (pk l) (p:Int) node fr back least k=match rdl l p node fr back least k.toNat with | none=>([],0,1) | some r=>(r.1,(r.2:Int),0):=by
 have e:srE (l.length:Int) (pk l) (p:Int) node fr back least k=0:=by
  unfold srE
  rw[if_neg (by simp[h1]),qtl hm hp,if_neg (by simp),h2]
 unfold sr
 rw[if_neg (by simp[e])]
 simp only[qvP,qcn hl]
theorem sbegun {F:Nat}(hF:2000000≤F):qc0 F=some true:=by
 have n1:Nd 7:=⟨by omega,by omega⟩
 have g1:gkc [2,3,4,5,9,20]=0:=by decide
 have g2:gkc [3,9,11]=0:=by decide
 have e1:swE 7 [2,3,4,5,9,20] [3,9,11] 1 3 2=0:=qr7 (by decide) n1 g1 (fun _=>g2)
 have l1:(enc 7 [2,3,4,5,9,20] [3,9,11] 1 3 2).length≤8192:=by decide +kernel
 have w1:=qut e1 l1
 rw[show ((2:Int).toNat)=2 from rfl] at w1
 have hb:=qhN (node:=7) (x:=[2,3,4,5,9,20]) (fr:=[3,9,11]) (back:=1) (least:=3) (k:=2)
 have r1:=qvD (p:=0) hb l1 (by omega) (node:=7) (back:=1) (least:=3) (k:=2) (fr:=[3,9,11]) (by decide) (qrU n1 (fun _=>g2))
 have r2:=qlj (k:=2) (by omega) (by omega) (node:=7) (back:=1) (least:=3) (x:=[2,3,4,5,9,20]) (fr:=[3,9,11]) n1 (by omega) g1 (fun _=>g2) [] [] l1
 simp only[qv8,qwL,qwN,qwA] at r2
 rw[show ((2:Int).toNat)=2 from rfl,r2] at r1
 have w2:sw 7 [] [] 0 0 1=(1,[128],0):=by decide +kernel
 have r3:sr 0 [] 0 7 [] 0 0 1=([],0,1):=by decide +kernel
 unfold qc0
 rw[qfA hF,w1]
 simp only[qvK]
 rw[qiT hF (qdY hb) (qoA l1) (qhP l1),show (0:Int)=((0:Nat):Int) from rfl,r1,qfA hF]
 simp only[qvK]
 rw[show ((0:Nat):Int)=0 from rfl,w2,qiT hF (by intro y hy;simp at hy) ⟨by omega,by omega⟩ (by simp),r3]
 simp only[qvK,beq_self_eq_true,if_true]
 rw[qnG (by simp;omega) (by simp)]
 simp only[qvK]
 unfold qaY
 rw[if_pos (by simp),qp2 (by simp;omega) (by simp)]
 simp only[qvK]
 unfold qaZ
 rw[if_pos (by simp),qew]
 rfl
def rowE (n:Int):Int→qyo→Int
 | _,[]=>0
 | last,x::l=>if x<0∨n≤x then 3 else if x≤last then 4 else rowE n x l
def gE (n:Int):List (qyo)→Int
 | []=>0
 | l::g=>if rowE n (-1) l≠0 then rowE n (-1) l else gE n g
def gtot:List (qyo)→Nat
 | []=>0
 | l::g=>l.length+gtot g
def gchk (g:List (qyo)):Int:=if 100<g.length then 2 else if gE g.length g≠0 then gE g.length g else if 600<gtot g then 2 else 0
theorem qhQ:∀ {n last:Int} {l:qyo},rowE n last l=0↔(l.Pairwise (·<·)∧∀ x∈l,last<x)∧∀ x∈l,0≤x∧x<n
 | n,last,[]=>by simp[rowE]
 | n,last,x::l=>by
  unfold rowE
  by_cases h1:x<0∨n≤x
  ·rw[if_pos h1]
   constructor
   ·intro h;simp at h
   ·rintro ⟨_,h⟩;have:=h x (by simp);omega
  ·rw[if_neg h1]
   by_cases h2:x≤last
   ·rw[if_pos h2]
    constructor
    ·intro h;simp at h
    ·rintro ⟨⟨_,h⟩,_⟩;have:=h x (by simp);omega
   ·rw[if_neg h2,qhQ,qwM]
    constructor
    ·rintro ⟨⟨a1,a2⟩,a3⟩
     refine ⟨⟨⟨a2,a1⟩,fun y hy=>?_⟩,fun y hy=>?_⟩
     ·rcases qvR.1 hy with rfl | hy
      ·omega
      ·have:=a2 y hy;omega
     ·rcases qvR.1 hy with rfl | hy
      ·omega
      ·exact a3 y hy
    ·rintro ⟨⟨⟨a1,a2⟩,a3⟩,a4⟩
     exact ⟨⟨a2,a1⟩,fun y hy=>a4 y (by simp[hy])⟩
theorem qll {n last:Int}:∀ {l:qyo},-1≤last→last<n→rowE n last l=0→last+1+l.length≤n
 | [],h1,h2,_=>by simp;omega
 | x::l,h1,h2,h=>by
  unfold rowE at h
  split at h
  ·simp at h
  ·split at h
   ·simp at h
   ·have:=qll (l:=l) (by omega) (by omega) h
    rw[qwa];omega
theorem qqR {n:Int}:∀ {g:List (qyo)},gE n g=0↔∀ l∈g,rowE n (-1) l=0
 | []=>by simp[gE]
 | l::g=>by
  unfold gE
  by_cases h:rowE n (-1) l=0
  ·rw[if_neg (by simp[h]),qqR];simp[h]
  ·rw[if_pos h];simp[h]
def Gr (g:List (qyo)):Prop:=g.length≤100∧(∀ l∈g,l.Pairwise (·<·)∧∀ x∈l,0≤x∧x<g.length)∧gtot g≤600
theorem qdk {g:List (qyo)}:gchk g=0↔Gr g:=by
 unfold gchk Gr
 by_cases h1:100<g.length
 ·rw[if_pos h1];simp;omega
 ·rw[if_neg h1]
  by_cases h2:gE g.length g=0
  ·rw[if_neg (by simp[h2])]
   have h3:=qqR.1 h2
   have h4:∀ l∈g,l.Pairwise (·<·)∧∀ x∈l,0≤x∧x<(g.length:Int):=fun l hl=>by
    have:=qhQ.1 (h3 l hl)
    exact ⟨this.1.1,this.2⟩
   by_cases h5:600<gtot g
   ·rw[if_pos h5];simp;omega
   ·rw[if_neg h5]
    exact ⟨fun _=>⟨by omega,h4,by omega⟩,fun _=>rfl⟩
  ·rw[if_pos h2]
   refine ⟨fun h=>absurd h h2,fun h=>absurd (qqR.2 fun l hl=>qhQ.2 ⟨⟨(h.2.1 l hl).1,fun x hx=>?_⟩,(h.2.1 l hl).2⟩) h2⟩
   have:=(h.2.1 l hl).2 x hx;omega
theorem qii {g:List (qyo)}(h:Gr g){l:qyo}(hl:l∈g):l.length≤100:=by
 have h1:=(h.2.1 l hl).2
 have h2:rowE g.length (-1) l=0:=qhQ.2 ⟨⟨(h.2.1 l hl).1,fun x hx=>by have:=h1 x hx;omega⟩,h1⟩
 have:=qll (by omega) (by omega) h2
 have:=h.1
 omega
theorem ql2 {F:Nat}{rec38:(Int×Int)→Option Int}{g:List (qyo)}{m i:Int}{l:qyo}(hg:g.length≤100):∀ (k j:Nat) (last:Int),102<k+j→(j:Int)≤last+1→last<g.length→-1≤last →
  yi F rec38 g m i l k (last,(j:Int))=if rowE g.length last (l.drop j)≠0 then some (rowE g.length last (l.drop j)) else qak F rec38 m i l
 | 0,j,last,h,h1,h2,h3=>by omega
 | k+1,j,last,h,h1,h2,h3=>by
  show qaj F rec38 g m i l (yi F rec38 g m i l k) last (j:Int)=_
  unfold qaj
  by_cases hlt:j<l.length
  ·rw[if_pos (by simp;omega),qG,qvL hlt,qvV hlt]
   simp only[qvK]
   unfold rowE
   by_cases c1:l[j]<0∨(g.length:Int)≤l[j]
   ·rw[if_pos (by simpa using c1),if_pos c1,if_pos (by decide)]
   ·rw[if_neg (by simpa using c1),if_neg c1]
    by_cases c2:l[j]≤last
    ·rw[if_pos (by simpa using c2),if_pos c2,if_pos (by decide)]
    ·rw[if_neg (by simpa using c2),if_neg c2,qC (by omega)]
     exact ql2 hg k (j+1) l[j] (by omega) (by omega) (by omega) (by omega)
  ·rw[if_neg (by simp;omega),qv1 (by omega)]
   rw[if_neg (by simp[rowE])]
theorem qjN {F:Nat}(hF:1000≤F){g:List (qyo)}(hg:g.length≤100):∀ (k i:Nat) (m:Nat),g.length<k+i→i≤g.length→m≤100*i →
  za F g k ((m:Int),(i:Int))=if gE g.length (g.drop i)≠0 then some (gE g.length (g.drop i)) else if 600<m+gtot (g.drop i) then some 2 else some 0
 | 0,_,_,_,_,_=>by omega
 | k+1,i,m,h,hi,hm=>by
  show qai F g (za F g k) (m:Int) (i:Int)=_
  unfold qai
  by_cases hlt:i<g.length
  ·rw[if_pos (by simp;omega),qG,qvL hlt,qvV hlt]
   simp only[qvK]
   have hin:=ql2 (F:=F) (rec38:=za F g k) (m:=(m:Int)) (i:=(i:Int)) (l:=g[i]) hg F 0 (-1) (by omega) (by omega) (by omega) (by omega)
   rw[qv5,show ((0:Nat):Int)=0 from rfl] at hin
   rw[hin]
   unfold gE gtot
   by_cases hr:rowE g.length (-1) g[i]=0
   ·have hlen:=qll (by omega) (by omega) hr
    have e:(if rowE (g.length:Int) (-1) g[i]≠0 then rowE (g.length:Int) (-1) g[i] else gE (g.length:Int) (g.drop (i+1)))=gE (g.length:Int) (g.drop (i+1)):=if_neg (by simp[hr])
    rw[if_neg (show ¬ rowE (g.length:Int) (-1) g[i]≠0 by simp[hr]),e]
    unfold qak qb8
    rw[jr (by omega),qC (by omega),qjN hF hg k (i+1) (m+g[i].length) (by omega) (by omega) (by omega),Nat.add_assoc]
   ·rw[if_pos (by simpa using hr)]
    have e:(if rowE (g.length:Int) (-1) g[i]≠0 then rowE (g.length:Int) (-1) g[i] else gE (g.length:Int) (g.drop (i+1)))=rowE (g.length:Int) (-1) g[i]:=if_pos hr
    rw[e,if_pos hr]
  ·rw[if_neg (by simp;omega),qv1 (by omega)]
   unfold qb7
   rw[if_neg (show ¬ gE (g.length:Int) []≠0 by simp[gE])]
   by_cases h6:600<m
   ·rw[if_pos (by simp;omega),if_pos (by simpa[gtot] using h6)]
   ·rw[if_neg (by simp;omega),if_neg (by simpa[gtot] using h6)]
theorem qjA {F:Nat}(hF:1000≤F){g:List (qyo)}:qdd F g=some (gchk g):=by
 unfold qdd gchk
 by_cases h:100<g.length
 ·rw[if_pos (by simp;omega),if_pos h]
 ·have:=qjN hF (g:=g) (by omega) F 0 0 (by omega) (by omega) (by omega)
  rw[qv5,qwA,show ((0:Nat):Int)=0 from rfl] at this
  rw[if_neg (by simp;omega),if_neg h,this]
  split
  ·rfl
  ·split <;> rfl
def pkH (B:Int)(r:Nat):qyo:=if 0<B then ga r else []
def pkF (g:List (qyo))(i r:Nat):qyo:=if 0<r then g.getD (i-r) [] else []
def pkW (g:List (qyo))(B least:Int)(k i r:Nat):qyo:=pkH B r++enc (i:Int) (g.getD i []) (pkF g i r) (r:Int) least k
def bwy (f:Nat→qyo):Nat→Nat×qyo
 | 0=>(0,f 0)
 | n+1=>if (f (n+1)).length<(bwy f n).2.length then (n+1,f (n+1)) else bwy f n
theorem qqz (f:Nat→qyo):∀ n:Nat,(bwy f n).1≤n∧(bwy f n).2=f (bwy f n).1
 | 0=>⟨qv3 _,rfl⟩
 | n+1=>by
  have:=qqz f n
  unfold bwy
  split
  ·exact ⟨qv3 _,rfl⟩
  ·exact ⟨by omega,this.2⟩
theorem qoe (f:Nat→qyo):∀ {n r:Nat},r≤n→(bwy f n).2.length≤(f r).length
 | 0,r,h=>by
  have:r=0:=by omega
  subst this;exact qv3 _
 | n+1,r,h=>by
  unfold bwy
  by_cases hr:r=n+1
  ·subst hr
   split
   ·exact qv3 _
   ·omega
  ·have:=qoe f (n:=n) (r:=r) (by omega)
   split
   ·simp only;omega
   ·exact this
theorem qjM {f f':Nat→qyo}:∀ {n:Nat},(∀ r,r≤n→f r=f' r)→bwy f n=bwy f' n
 | 0,h=>by unfold bwy;rw[h 0 (qv3 _)]
 | n+1,h=>by
  unfold bwy
  rw[h (n+1) (qv3 _),qjM (n:=n) fun r hr=>h r (by omega)]
def pkN (g:List (qyo))(B least:Int)(k i:Nat):Nat×qyo:=bwy (pkW g B least k i) (min B.toNat i)
def pkA (g:List (qyo))(B least:Int)(k:Nat):Nat→qyo×qyo×qyo
 | 0=>([],[],[])
 | n+1=>((pkA g B least k n).1++(pkN g B least k n).2,(pkA g B least k n).2.1++[((pkN g B least k n).1:Int)],(pkA g B least k n).2.2++[((pkA g B least k n).1.length:Int)])
def pkE (g:List (qyo))(B least k:Int):Int:=if gchk g≠0 then gchk g else if hcE B least k≠0 then hcE B least k else if 8192<(pkA g B least k.toNat g.length).1.length then 8 else 0
theorem qcr {g:List (qyo)}{B least k:Int}(h:pkE g B least k=0):gchk g=0∧hcE B least k=0∧(pkA g B least k.toNat g.length).1.length≤8192:=by
 unfold pkE at h
 by_cases h1:gchk g=0
 ·rw[if_neg (by simp[h1])] at h
  by_cases h2:hcE B least k=0
  ·rw[if_neg (by simp[h2])] at h
   by_cases h3:8192<(pkA g B least k.toNat g.length).1.length
   ·rw[if_pos h3] at h;simp at h
   ·exact ⟨h1,h2,by omega⟩
  ·rw[if_pos h2] at h;exact absurd h h2
 ·rw[if_pos h1] at h;exact absurd h h1
theorem quY {g:List (qyo)}{B least k:Int}(h1:gchk g=0)(h2:hcE B least k=0)(h3:(pkA g B least k.toNat g.length).1.length≤8192):pkE g B least k=0:=by
 unfold pkE
 rw[if_neg (by simp[h1]),if_neg (by simp[h2]),if_neg (by omega)]
theorem qlc {g:List (qyo)}{B least:Int}{k:Nat}:∀ {n i:Nat},i≤n→∃ R,(pkA g B least k n).1=(pkA g B least k i).1++R
 | 0,i,h=>by
  have:i=0:=by omega
  subst this;exact ⟨[],by simp⟩
 | n+1,i,h=>by
  by_cases hi:i=n+1
  ·subst hi;exact ⟨[],by simp⟩
  ·obtain ⟨R,hR⟩:=qlc (g:=g) (B:=B) (least:=least) (k:=k) (n:=n) (i:=i) (by omega)
   exact ⟨R++(pkN g B least k n).2,by rw[pkA,hR];simp⟩
theorem qiw {g:List (qyo)}{B least:Int}{k:Nat}:∀ n:Nat,(pkA g B least k n).2.1.length=n∧(pkA g B least k n).2.2.length=n
 | 0=>⟨rfl,rfl⟩
 | n+1=>by
  have:=qiw (g:=g) (B:=B) (least:=least) (k:=k) n
  simp only[pkA,qvN,List.length_singleton]
  omega
theorem qgH {g:List (qyo)}{B least:Int}{k n i:Nat}(h:i≤n):(pkA g B least k i).1.length≤(pkA g B least k n).1.length:=by
 obtain ⟨R,hR⟩:=qlc (g:=g) (B:=B) (least:=least) (k:=k) h
 rw[hR,qvN];omega
theorem qf7 {g:List (qyo)}{B least:Int}{k i:Nat}:(pkN g B least k i).1≤min B.toNat i∧(pkN g B least k i).2=pkW g B least k i (pkN g B least k i).1:=qqz _ _
theorem qmv {g:List (qyo)}{B least:Int}{k n i:Nat}(h:i<n):∃ R,(pkA g B least k n).1=(pkA g B least k i).1++((pkH B (pkN g B least k i).1++enc (i:Int) (g.getD i []) (pkF g i (pkN g B least k i).1) ((pkN g B least k i).1:Int) least k)++R):=by
 obtain ⟨R,hR⟩:=qlc (g:=g) (B:=B) (least:=least) (k:=k) (n:=n) (i:=i+1) h
 refine ⟨R,?_⟩
 rw[hR,pkA]
 have:=(qf7 (g:=g) (B:=B) (least:=least) (k:=k) (i:=i)).2
 unfold pkW at this
 rw[this]
 simp only[qvM]
theorem quP {g:List (qyo)}(h:Gr g){l:qyo}(hl:l∈g):gkc l=0:=by
 have h1:=h.2.1 l hl
 have h2:=qii h hl
 have h3:=h.1
 refine zD.2 ⟨by omega,qli h1.1 (fun z hz=>?_) fun z hz=>?_⟩
 ·have:=h1.2 z hz;omega
 ·have:=h1.2 z hz;unfold Nd;omega
theorem qih {g:List (qyo)}(h:Gr g)(i:Nat):gkc (g.getD i [])=0:=by
 by_cases hi:i<g.length
 ·rw[qwg,qvL hi]
  exact quP h (qwe hi)
 ·rw[qwg,qv6 (by omega)]
  decide
theorem qhO {g:List (qyo)}(h:Gr g)(i r:Nat):gkc (pkF g i r)=0:=by
 unfold pkF
 split
 ·exact qih h _
 ·decide
def pkO (l:qyo)(B:Int)(node p:Nat):Option (Int×Nat):=if B=0 then some (0,p) else rgam l p (min B (node:Int))
def pkR (l:qyo)(B least:Int)(k:Nat):Nat→List (qyo)→Nat→Option (List (qyo)×Nat)
 | 0,out,p=>some (out,p)
 | m+1,out,p=>(pkO l B out.length p).bind fun o=>(rdl l o.2 (out.length:Int) (pkF out out.length o.1.toNat) o.1 least k).bind fun r=>pkR l B least k m (out++[r.1]) r.2
theorem qnZ {g:List (qyo)}{i:Nat}(h:i<g.length):g.take i++[g.getD i []]=g.take (i+1):=by
 rw[qxA,qwg,qvL h]
 rfl
theorem qrm {g:List (qyo)}{i r:Nat}(h:r≤i)(_hi:i≤g.length):pkF (g.take i) i r=pkF g i r:=by
 unfold pkF
 split
 ·rw[qwg,qwg,List.getElem?_take,if_pos (by omega)]
 ·rfl
theorem qle {g:List (qyo)}(hg:Gr g){B least:Int}{k:Nat}(hh:hcE B least (k:Int)=0)(hl:(pkA g B least k g.length).1.length≤8192)(T:qyo):∀ (m i:Nat),i+m=g.length →
  pkR ((pkA g B least k g.length).1++T) B least k m (g.take i) (pkA g B least k i).1.length=some (g,(pkA g B least k g.length).1.length)
 | 0,i,h=>by
  have:i=g.length:=by omega
  subst this
  simp[pkR]
 | m+1,i,h=>by
  have hi:i<g.length:=by omega
  obtain ⟨k1,k2,k',hk,k3,k4⟩:=qcN hh
  have hkk:k=k':=by omega
  subst hkk
  obtain ⟨hr,_⟩:=qf7 (g:=g) (B:=B) (least:=least) (k:=k) (i:=i)
  have hgl:=hg.1
  have hti:(g.take i).length=i:=by rw[qwb];omega
  obtain ⟨R,hR⟩:=qmv (g:=g) (B:=B) (least:=least) (k:=k) hi
  have hnext:=qle hg hh hl T m (i+1) (by omega)
  have hA:(pkA g B least k (i+1)).1.length=(pkA g B least k i).1.length+(pkH B (pkN g B least k i).1).length+(enc (i:Int) (g.getD i []) (pkF g i (pkN g B least k i).1) ((pkN g B least k i).1:Int) least k).length:=by
   have:=(qf7 (g:=g) (B:=B) (least:=least) (k:=k) (i:=i)).2
   rw[pkA,this]
   unfold pkW
   simp only[qvN];omega
  have hO:pkO ((pkA g B least k g.length).1++T) B i (pkA g B least k i).1.length=some (((pkN g B least k i).1:Int),(pkA g B least k i).1.length+(pkH B (pkN g B least k i).1).length):=by
   unfold pkO pkH
   by_cases hB:B=0
   ·have:(pkN g B least k i).1=0:=by rw[hB] at hr ⊢;simp at hr;exact hr
    rw[if_pos hB,this,if_neg (by omega)]
    simp
   ·rw[if_neg hB,if_pos (by omega)]
    rw[hR]
    unfold pkH
    rw[if_pos (by omega)]
    simp only[qvM]
    exact qfx (by omega) (by omega) _ _
  unfold pkR
  rw[hti,hO]
  simp only[qvK,qvP]
  rw[qrm (by omega) (by omega)]
  have hE:(enc (i:Int) (g.getD i []) (pkF g i (pkN g B least k i).1) ((pkN g B least k i).1:Int) least k).length≤8192:=by
   have:=qgH (g:=g) (B:=B) (least:=least) (k:=k) (show i+1≤g.length from hi)
   omega
  have hD:=qlj (k:=k) k3 k4 (node:=(i:Int)) (back:=((pkN g B least k i).1:Int)) (least:=least) (x:=g.getD i []) (fr:=pkF g i (pkN g B least k i).1) (by unfold Nd;omega) k2 (qih hg i) (fun _=>qhO hg _ _) ((pkA g B least k i).1++pkH B (pkN g B least k i).1) (R++T) hE
  rw[hR]
  simp only[qvM,qvN] at hD ⊢
  rw[hD]
  simp only[qvK]
  rw[qnZ hi]
  rw[hR] at hnext
  simp only[qvM,qvN] at hnext
  rw[← hnext,hA]
theorem quS {B least k:Int}{r:Nat}(h:hcE B least k=0)(hr:(r:Int)≤B):hcE (r:Int) least k=0:=by
 unfold hcE at h ⊢
 by_cases hb:hcB B least k
 ·rw[if_pos hb] at h;simp at h
 ·rw[if_neg (by unfold hcB at hb ⊢;omega)]
theorem qpp {F:Nat}(hF:2000000≤F){A:List (qyo)}{x fr H:qyo}{r i k:Nat}{least:Int}(hA:A.length=i)(hi:i≤100)(hx:gkc x=0)(hfr:gkc fr=0)(hh:hcE (r:Int) least (k:Int)=0)(hH:Bit H)(hHl:H.length≤100) :
  qaN F A x (r:Int) least (k:Int) (H.length:Int) (pk H) fr=some (if (H++enc (i:Int) x fr (r:Int) least k).length≤8192 then ((r:Int),((H++enc (i:Int) x fr (r:Int) least k).length:Int),pk (H++enc (i:Int) x fr (r:Int) least k),true) else (0,0,[],false)):=by
 unfold qaN
 rw[qfA hF,hA]
 simp only[qvK]
 have hE:swE (i:Int) x fr (r:Int) least (k:Int)=0:=qr7 hh (by unfold Nd;omega) hx (fun _=>hfr)
 rw[qvN]
 by_cases h1:(enc (i:Int) x fr (r:Int) least k).length≤8192
 ·have hs:=qut hE (by rw[qvP];exact h1)
  rw[qvP] at hs
  rw[hs]
  simp only
  rw[qD (by omega) (by omega)]
  by_cases h2:H.length+(enc (i:Int) x fr (r:Int) least k).length≤8192
  ·rw[if_neg (by simp;omega),if_pos h2,qkM (by omega) (qdY hH) (qdY qhN) (qgG (by omega)) (qgG h1),qcn hH,qcn qhN]
   rfl
  ·rw[if_pos (by simp;omega),if_neg h2]
 ·have hs:sw (i:Int) x fr (r:Int) least (k:Int)=(0,[],8):=by
   unfold sw
   rw[if_neg (by simp[hE]),qvP,if_pos (by omega)]
  rw[hs,if_pos (by simp),if_neg (by omega)]
theorem qtZ {F:Nat}(hF:2000000≤F){g:List (qyo)}(hg:Gr g){B least:Int}{k i r:Nat}(hh:hcE B least (k:Int)=0)(hi:i≤g.length)(hr:r≤min B.toNat i) :
  qec F (g.take i) (g.getD i []) (r:Int) B least (k:Int)=some (if (pkW g B least k i r).length≤8192 then ((r:Int),((pkW g B least k i r).length:Int),pk (pkW g B least k i r),true) else (0,0,[],false)):=by
 have hgl:=hg.1
 have hti:(g.take i).length=i:=by rw[qwb];omega
 obtain ⟨k1,-,-⟩:=qcN hh
 have hh':hcE (r:Int) least (k:Int)=0:=quS hh (by omega)
 have hj:∀ H:qyo,Bit H→H.length≤100→qaM F (g.take i) (g.getD i []) (r:Int) least (k:Int) (H.length:Int) (pk H)=some (if (H++enc (i:Int) (g.getD i []) (pkF g i r) (r:Int) least k).length≤8192 then ((r:Int),((H++enc (i:Int) (g.getD i []) (pkF g i r) (r:Int) least k).length:Int),pk (H++enc (i:Int) (g.getD i []) (pkF g i r) (r:Int) least k),true) else (0,0,[],false)):=by
  intro H hH hHl
  unfold qaM
  by_cases h0:0<r
  ·rw[if_pos (by simpa using h0),hti,zB (by omega) (by omega),show ((i:Int)-(r:Int))=((i-r:Nat):Int) from by omega,qG,List.getElem?_take,if_pos (by omega),qvL (show i-r<g.length by omega)]
   simp only[qvK]
   have e:g[i-r]'(by omega)=pkF g i r:=by
    unfold pkF
    rw[if_pos h0,qwg,qvL (show i-r<g.length by omega)]
    rfl
   rw[e]
   exact qpp hF hti (by omega) (qih hg i) (qhO hg i r) hh' hH hHl
  ·rw[if_neg (by simpa using h0)]
   have e:pkF g i r=[]:=by unfold pkF;rw[if_neg h0]
   rw[e]
   exact qpp hF hti (by omega) (qih hg i) (by decide) hh' hH hHl
 unfold qec pkW pkH
 by_cases hB:0<B
 ·have hga:=que (n:=r) (by omega)
  rw[if_pos (by simpa using hB),if_pos hB,yd (by omega),qhy (by omega) (by omega)]
  simp only[qvK]
  exact hj (ga r) (qeL r) (by omega)
 ·rw[if_neg (by simpa using hB),if_neg hB]
  exact hj [] (by intro z hz;simp at hz) (by simp)
def bst (f:Nat→qyo)(j:Nat):Bool×Int×Int×qyo:=if j=0 then (false,0,0,[]) else if (bwy f (j-1)).2.length≤8192 then (true,((bwy f (j-1)).1:Int),((bwy f (j-1)).2.length:Int),pk (bwy f (j-1)).2) else (false,0,0,[])
theorem qqs {F:Nat}(hF:2000000≤F){g:List (qyo)}(hg:Gr g){B least:Int}{k i:Nat}(hh:hcE B least (k:Int)=0)(hi:i≤g.length):∀ (n j:Nat),min B.toNat i+1<n+j→j≤min B.toNat i+1 →
  zT F (g.take i) (g.getD i []) B least (k:Int) n ((bst (pkW g B least k i) j).1,(j:Int),(bst (pkW g B least k i) j).2.1,(bst (pkW g B least k i) j).2.2.1,(bst (pkW g B least k i) j).2.2.2)=some (if (pkN g B least k i).2.length≤8192 then (((pkN g B least k i).1:Int),((pkN g B least k i).2.length:Int),pk (pkN g B least k i).2,true) else (0,0,[],false))
 | 0,_,_,_=>by omega
 | n+1,j,h,hj=>by
  have hgl:=hg.1
  have hti:(g.take i).length=i:=by rw[qwb];omega
  obtain ⟨k1,-,-⟩:=qcN hh
  show qbw F (g.take i) (g.getD i []) B least (k:Int) (zT F (g.take i) (g.getD i []) B least (k:Int) n) (bst (pkW g B least k i) j).1 (j:Int) (bst (pkW g B least k i) j).2.1 (bst (pkW g B least k i) j).2.2.1 (bst (pkW g B least k i) j).2.2.2=_
  unfold qbw
  have hmin:imin B ((g.take i).length:Int)=((min B.toNat i:Nat):Int):=by
   rw[hti];unfold imin;split <;> omega
  rw[hmin,qD (by omega) (by omega)]
  by_cases hlt:j<min B.toNat i+1
  ·rw[if_pos (by simp;omega),qtZ hF hg hh hi (by omega)]
   simp only[qvK]
   have hrec:=qqs hF hg hh hi n (j+1) (by omega) (by omega)
   have hnew:(pkW g B least k i j).length≤8192→bwy (pkW g B least k i) j=(j,pkW g B least k i j)→yp F (zT F (g.take i) (g.getD i []) B least (k:Int) n) (j:Int) true (j:Int) ((pkW g B least k i j).length:Int) (pk (pkW g B least k i j))=some (if (pkN g B least k i).2.length≤8192 then (((pkN g B least k i).1:Int),((pkN g B least k i).2.length:Int),pk (pkN g B least k i).2,true) else (0,0,[],false)):=by
    intro h1 h2
    unfold yp
    rw[qC (by omega),← hrec]
    unfold bst
    rw[if_neg (by omega),qwC,h2,if_pos h1]
   have hold:bst (pkW g B least k i) (j+1)=bst (pkW g B least k i) j→yp F (zT F (g.take i) (g.getD i []) B least (k:Int) n) (j:Int) (bst (pkW g B least k i) j).1 (bst (pkW g B least k i) j).2.1 (bst (pkW g B least k i) j).2.2.1 (bst (pkW g B least k i) j).2.2.2=some (if (pkN g B least k i).2.length≤8192 then (((pkN g B least k i).1:Int),((pkN g B least k i).2.length:Int),pk (pkN g B least k i).2,true) else (0,0,[],false)):=by
    intro h1
    unfold yp
    rw[qC (by omega),← hrec,h1]
   unfold qbx
   by_cases hl:(pkW g B least k i j).length≤8192
   ·rw[if_pos hl]
    simp only[if_true]
    by_cases h0:j=0
    ·subst h0
     rw[if_pos (by simp[bst])]
     exact hnew hl rfl
    ·obtain ⟨q,rfl⟩:∃ q,j=q+1:=⟨j-1,by omega⟩
     by_cases hb:(bwy (pkW g B least k i) q).2.length≤8192
     ·have e:bst (pkW g B least k i) (q+1)=(true,((bwy (pkW g B least k i) q).1:Int),((bwy (pkW g B least k i) q).2.length:Int),pk (bwy (pkW g B least k i) q).2):=by
       unfold bst
       rw[if_neg (by omega),qwC,if_pos hb]
      by_cases hc:(pkW g B least k i (q+1)).length<(bwy (pkW g B least k i) q).2.length
      ·rw[if_pos (by rw[e];simp;omega)]
       exact hnew hl (by rw[bwy,if_pos hc])
      ·rw[if_neg (by rw[e];simp;omega)]
       refine hold ?_
       rw[e]
       unfold bst
       rw[if_neg (by omega),qwC,bwy,if_neg hc,if_pos hb]
     ·have e:bst (pkW g B least k i) (q+1)=(false,0,0,[]):=by
       unfold bst
       rw[if_neg (by omega),qwC,if_neg hb]
      rw[if_pos (by rw[e];simp)]
      exact hnew hl (by rw[bwy,if_pos (by omega)])
   ·rw[if_neg hl]
    simp only[qv0,if_false]
    refine hold ?_
    unfold bst
    rw[if_neg (by omega),qwC]
    by_cases h0:j=0
    ·subst h0
     rw[if_pos rfl,bwy,if_neg hl]
    ·obtain ⟨q,rfl⟩:∃ q,j=q+1:=⟨j-1,by omega⟩
     rw[if_neg (show ¬ q+1=0 by omega),qwC,bwy]
     by_cases hc:(pkW g B least k i (q+1)).length<(bwy (pkW g B least k i) q).2.length
     ·rw[if_pos hc,if_neg hl,if_neg (by omega)]
     ·rw[if_neg hc]
  ·rw[if_neg (by simp;omega)]
   have:j=min B.toNat i+1:=by omega
   subst this
   unfold qdR bst pkN
   rw[if_neg (by omega),qwC]
   split <;> rfl
theorem qsH {F:Nat}(hF:2000000≤F){g:List (qyo)}(hg:Gr g){B least:Int}{k i:Nat}(hh:hcE B least (k:Int)=0)(hi:i≤g.length) :
  qeb F (g.take i) (g.getD i []) B least (k:Int)=some (if (pkN g B least k i).2.length≤8192 then (((pkN g B least k i).1:Int),((pkN g B least k i).2.length:Int),pk (pkN g B least k i).2,true) else (0,0,[],false)):=by
 have hgl:=hg.1
 have:=qqs hF hg hh hi F 0 (by omega) (qwn _)
 exact this
theorem qtg {g:List (qyo)}{B least:Int}{k i r:Nat}:Bit (pkW g B least k i r):=by
 unfold pkW pkH
 refine kp ?_ qhN
 split
 ·exact qeL r
 ·intro z hz;simp at hz
theorem qld {g:List (qyo)}{B least:Int}{k i:Nat}:Bit (pkN g B least k i).2:=by
 rw[qf7.2];exact qtg
theorem qdC {g:List (qyo)}{B least:Int}{k:Nat}:∀ n:Nat,Bit (pkA g B least k n).1
 | 0=>by intro z hz;simp[pkA] at hz
 | n+1=>by unfold pkA;exact kp (qdC n) qld
theorem qmf {g:List (qyo)}{i:Nat}(h:i<g.length):idx g (i:Int)=some (g.getD i []):=by
 rw[qG,qwg,qvL h]
 rfl
theorem qoR {F:Nat}(hF:2000000≤F){g:List (qyo)}(hg:Gr g){N B least:Int}{k:Nat}(hh:hcE B least (k:Int)=0):∀ (j i:Nat),g.length<j+i→i≤g.length→(pkA g B least k i).1.length≤8192 →
  ∃ z,qJ F N B least (k:Int) g j ((i:Int),((pkA g B least k i).1.length:Int),pk (pkA g B least k i).1,(pkA g B least k i).2.1,(pkA g B least k i).2.2)=some z∧z.1=decide ((pkA g B least k g.length).1.length≤8192) ∧
   (z.1=true→z=(true,N,B,least,(k:Int),((pkA g B least k g.length).1.length:Int),pk (pkA g B least k g.length).1,(pkA g B least k g.length).2.1,(pkA g B least k g.length).2.2))
 | 0,_,_,_,_=>by omega
 | j+1,i,h,hi,hA=>by
  have hgl:=hg.1
  show ∃ z,yz F N B least (k:Int) g (qJ F N B least (k:Int) g j) (i:Int) ((pkA g B least k i).1.length:Int) (pk (pkA g B least k i).1) (pkA g B least k i).2.1 (pkA g B least k i).2.2=some z∧_
  unfold yz
  by_cases hlt:i<g.length
  ·have e0:sub g 0 (i:Int)=some (g.take i):=by
    have:=qph (l:=g) (i:=0) (j:=i) (by omega) hi
    simpa using this
   have hstep:(pkA g B least k (i+1)).1.length=(pkA g B least k i).1.length+(pkN g B least k i).2.length:=by rw[pkA,qvN]
   have hmono:=qgH (g:=g) (B:=B) (least:=least) (k:=k) (show i+1≤g.length from hlt)
   rw[if_pos (by simp;omega),qmf hlt,e0]
   simp only[qvK]
   rw[qsH hF hg hh hi]
   simp only[qvK]
   unfold yA
   by_cases h1:(pkN g B least k i).2.length≤8192
   ·rw[if_pos h1]
    simp only[qwc,qv0,if_false]
    rw[qD (by omega) (by omega)]
    unfold kr
    by_cases h2:(pkA g B least k i).1.length+(pkN g B least k i).2.length≤8192
    ·rw[if_neg (by simp;omega)]
     have hl:=qiw (g:=g) (B:=B) (least:=least) (k:=k) i
     rw[yb (by rw[hl.1];simp;omega)]
     simp only[qvK]
     rw[yb (by rw[hl.2];simp;omega)]
     simp only[qvK]
     unfold ku
     rw[qkM (by omega) (qdY (qdC i)) (qdY qld) (qgG hA) (qgG h1),qcn (qdC i),qcn qld]
     simp only[qvK]
     have:=qoR hF hg (N:=N) hh j (i+1) (by omega) (by omega) (by omega)
     rw[qC (by omega),← hstep]
     exact this
    ·rw[if_pos (by simp;omega)]
     exact ⟨_,rfl,by simp only;rw[decide_eq_false (by omega)],fun h=>by simp at h⟩
   ·rw[if_neg h1]
    simp only[Bool.not_false,if_true]
    unfold kr
    rw[if_pos rfl]
    exact ⟨_,rfl,by simp only;rw[decide_eq_false (by omega)],fun h=>by simp at h⟩
  ·rw[if_neg (by simp;omega)]
   have:i=g.length:=by omega
   subst this
   unfold jk
   exact ⟨_,rfl,by simp only;rw[decide_eq_true hA],fun _=>rfl⟩
theorem qj2 {F:Nat}(hF:2000000≤F){g:List (qyo)}{B least k:Int} :
  ∃ z1 z2 z3 z4 z5 z6 z7 z8,qbf F g B least k=some (z1,z2,z3,z4,z5,z6,z7,z8,pkE g B least k) ∧
   (pkE g B least k=0→(z1,z2,z3,z4,z5,z6,z7,z8)=((g.length:Int),B,least,k,((pkA g B least k.toNat g.length).1.length:Int),pk (pkA g B least k.toNat g.length).1,(pkA g B least k.toNat g.length).2.1,(pkA g B least k.toNat g.length).2.2)):=by
 unfold qbf
 rw[qjA (by omega)]
 simp only[qvK]
 by_cases h1:gchk g=0
 ·rw[if_pos (by simpa using h1),qew]
  simp only[qvK]
  unfold vU
  by_cases h2:hcE B least k=0
  ·rw[if_pos (by simpa using h2)]
   obtain ⟨_,_,k',rfl,_,_⟩:=qcN h2
   have hg:=qdk.1 h1
   have hgl:=hg.1
   obtain ⟨z,hz,hz1,hz2⟩:=qoR hF hg (N:=(g.length:Int)) h2 F 0 (by omega) (qwn _) (by simp[pkA])
   have hz':qbJ F (g.length:Int) B least (k':Int) 0 [] [] [] g=some z:=by
    have e:pk ([]:qyo)=[]:=by simp[pk]
    simp only[pkA,qwN,e] at hz
    exact hz
   rw[hz']
   simp only[qvK]
   unfold yH yG
   rw[qvP]
   by_cases h3:(pkA g B least k' g.length).1.length≤8192
   ·rw[decide_eq_true h3] at hz1
    have:=hz2 hz1
    have hE:pkE g B least (k':Int)=0:=quY h1 h2 (by rw[qvP];exact h3)
    rw[hE,h2]
    subst this
    exact ⟨_,_,_,_,_,_,_,_,rfl,fun _=>rfl⟩
   ·rw[decide_eq_false h3] at hz1
    have hE:pkE g B least (k':Int)=8:=by
     unfold pkE
     rw[if_neg (by simp[h1]),if_neg (by simp[h2]),if_pos (by rw[qvP];omega)]
    rw[hE,hz1]
    exact ⟨_,_,_,_,_,_,_,_,rfl,fun h=>by simp at h⟩
  ·have hE:pkE g B least k=hcE B least k:=by
    unfold pkE
    rw[if_neg (by simp[h1]),if_pos h2]
   rw[if_neg (by simpa using h2),hE]
   unfold yH yG
   exact ⟨_,_,_,_,_,_,_,_,rfl,fun h=>absurd h h2⟩
 ·have hE:pkE g B least k=gchk g:=by
   unfold pkE
   rw[if_pos h1]
  rw[if_neg (by simpa using h1),hE]
  unfold vU yH yG
  rw[if_neg (by simpa using h1)]
  exact ⟨_,_,_,_,_,_,_,_,rfl,fun h=>absurd h h1⟩
def pwr (g:List (qyo))(B least k:Int):Int×Int×Int×Int×Int×qyo×Int :=
 if pkE g B least k≠0 then (0,0,0,0,0,[],pkE g B least k) else ((g.length:Int),B,least,k,((pkA g B least k.toNat g.length).1.length:Int),pk (pkA g B least k.toNat g.length).1,0)
def ptl (g:List (qyo))(B least k:Int):qyo×qyo×Int :=
 if pkE g B least k≠0 then ([],[],pkE g B least k) else ((pkA g B least k.toNat g.length).2.1,(pkA g B least k.toNat g.length).2.2,0)
theorem qfu {F:Nat}(hF:2000000≤F){g:List (qyo)}{B least k:Int}:yx F g B least k=some (pwr g B least k):=by
 obtain ⟨z1,z2,z3,z4,z5,z6,z7,z8,hz,hz2⟩:=qj2 hF (g:=g) (B:=B) (least:=least) (k:=k)
 unfold yx pwr
 rw[hz]
 simp only[qvK]
 by_cases h:pkE g B least k=0
 ·rw[if_neg (by simp[h]),if_neg (by simp[h])]
  have:=hz2 h
  simp only[qxa] at this
  obtain ⟨rfl,rfl,rfl,rfl,rfl,rfl,-,-⟩:=this
  rfl
 ·rw[if_pos (by simpa using h),if_pos h]
theorem qiz {F:Nat}(hF:2000000≤F){g:List (qyo)}{B least k:Int}:qaL F g B least k=some (ptl g B least k):=by
 obtain ⟨z1,z2,z3,z4,z5,z6,z7,z8,hz,hz2⟩:=qj2 hF (g:=g) (B:=B) (least:=least) (k:=k)
 unfold qaL ptl
 rw[hz]
 simp only[qvK]
 by_cases h:pkE g B least k=0
 ·rw[if_neg (by simp[h]),if_neg (by simp[h])]
  have:=hz2 h
  simp only[qxa] at this
  obtain ⟨-,-,-,-,-,-,rfl,rfl⟩:=this
  rfl
 ·rw[if_pos (by simpa using h),if_pos h]
theorem qrl {F:Nat}{xs ys:qyo}(he:xs.length=ys.length)(hm:xs.length≤1000000):∀ (k i:Nat),xs.length<k+i→i≤xs.length→qR F xs ys k (i:Int)=some (decide (xs.drop i=ys.drop i))
 | 0,_,_,_=>by omega
 | k+1,i,h,hi=>by
  show zo F xs ys (qR F xs ys k) (i:Int)=_
  unfold zo
  by_cases hlt:i<xs.length
  ·have hlt':i<ys.length:=by omega
   rw[if_pos (by simp;omega),qG,qvL hlt,qG,qvL hlt']
   simp only[qvK]
   rw[qvV hlt,qvV hlt']
   by_cases hc:xs[i]=ys[i]
   ·rw[if_neg (by simp[hc]),qC (by omega),qrl he hm k (i+1) (by omega) (by omega)]
    congr 1
    rw[decide_eq_decide,qxi]
    exact ⟨fun h=>⟨hc,h⟩,fun h=>h.2⟩
   ·rw[if_pos (by simpa using hc),decide_eq_false (fun e=>hc (qyi e).1)]
  ·rw[if_neg (by simp;omega),qv1 (by omega),qv1 (by omega)]
   rfl
theorem peqb {F:Nat}{xs ys:qyo}(hF:xs.length<F)(hm:xs.length≤1000000):qU F xs ys=some (decide (xs=ys)):=by
 unfold qU
 by_cases h:xs.length=ys.length
 ·rw[if_neg (by simp[h])]
  have:=qrl (F:=F) h hm F 0 (by omega) (qwn _)
  rw[qv5,qv5] at this
  exact this
 ·rw[if_pos (by simp;omega),decide_eq_false (fun e=>h (by rw[e]))]
theorem qpX {l:qyo}{p:Nat}{most:Int}(h:rgam l p most=none):(fg l p).2.2≠0∨most<(fg l p).1:=by
 unfold rgam at h
 by_cases h1:(fg l p).2.2=0
 ·right
  by_cases h2:(fg l p).1≤most
  ·rw[if_pos ⟨h1,h2⟩] at h;simp at h
  ·omega
 ·left;exact h1
theorem qoY {l:qyo}{p:Nat}{most:Int}{x:Int×Nat}(h:rgam l p most=some x):fg l p=(x.1,(x.2:Int),0)∧x.1≤most:=by
 unfold rgam at h
 split at h
 ·rename_i hc
  simp only[qvY] at h
  rw[← h]
  have h3:0≤(fg l p).2.1:=by
   rcases qqL (l:=l) (a:=p) with h1 | ⟨n,q,h1,h2,h3⟩
   ·exact absurd hc.1 h1
   ·rw[h1];simp
  refine ⟨?_,hc.2⟩
  simp only
  rw[Int.toNat_of_nonneg h3,← hc.1]
 ·simp at h
theorem qrn {l:qyo}{B:Int}(_hB:0≤B){node p:Nat}(hp:p≤l.length){o:Int×Nat}(h:pkO l B node p=some o):0≤o.1∧o.1≤min B (node:Int)∧o.2≤l.length:=by
 unfold pkO at h
 split at h
 ·simp only[qvY] at h
  subst h
  simp only
  omega
 ·have:=js h
  omega
theorem qoP {F:Nat}(hF:20000≤F){l:qyo}(hl:Bit l)(hm:l.length≤8192){N B least k:Int}(hB:0≤B∧B≤7){node p:Nat}(hn:node≤1000)(hp:p≤l.length) :
  qdQ F N B least k (l.length:Int) (pk l) (p:Int) (node:Int)=some (match pkO l B node p with | none=>(0,0,false) | some o=>(o.1,(o.2:Int),true)):=by
 unfold qdQ pkO
 by_cases h0:B=0
 ·rw[if_pos (by simpa using h0),if_pos h0]
 ·rw[if_neg (by simpa using h0),if_neg h0,qgw hF hl hm hp]
  simp only[qvK]
  have hmin:imin B (node:Int)=min B (node:Int):=by unfold imin;split <;> omega
  have hcv:iconv .u64 (min B (node:Int))=min B (node:Int):=by
   obtain ⟨q,hq⟩:=qvS (a:=min B (node:Int)) (by omega)
   rw[hq];exact yd (by omega)
  unfold qde
  rw[hmin,hcv]
  cases hr:rgam l p (min B (node:Int)) with
  | none =>
   rcases qpX hr with h1 | h1
   ·rw[if_pos (by simpa using h1),if_pos rfl]
   ·by_cases h2:(fg l p).2.2=0
    ·rw[if_neg (by simp[h2]),if_pos (by simpa using h1)]
    ·rw[if_pos (by simpa using h2),if_pos rfl]
  | some x =>
   obtain ⟨h1,h2⟩:=qoY hr
   have hok:=js hr
   rw[h1]
   simp only
   rw[if_neg (by simp),if_neg (by simp;omega)]
   have e:iconv .i64 x.1=x.1:=kE (by omega) (by omega)
   rw[e]
theorem qmz {F k:Nat}(hF:2000000≤F){l:qyo}(hl:Bit l)(hm:l.length≤8192){B least:Int}(hh:hcE B least (k:Int)=0){n:Nat}(hn:n≤100):∀ (j p:Nat) (out:List (qyo)),n<j+out.length→out.length≤n→p≤l.length→(∀ x∈out,gkc x=0) →
  kJ F (n:Int) B least (k:Int) (l.length:Int) (pk l) j (out,(p:Int),(out.length:Int))=some (match pkR l B least k (n-out.length) out p with | none=>([],false) | some r=>(r.1,decide (r.2=l.length)))
 | 0,_,_,_,_,_,_=>by omega
 | j+1,p,out,h,ho,hp,hg=>by
  obtain ⟨k1,k2,k',hk,k3,k4⟩:=qcN hh
  have hkk:k=k':=by omega
  subst hkk
  show qby F (n:Int) B least (k:Int) (l.length:Int) (pk l) (kJ F (n:Int) B least (k:Int) (l.length:Int) (pk l) j) out (p:Int) (out.length:Int)=_
  unfold qby
  by_cases hlt:out.length<n
  ·rw[if_pos (by simp;omega),qoP (by omega) hl hm k1 (by omega) hp,show n-out.length=(n-(out.length+1))+1 from by omega]
   simp only[qvK,pkR]
   cases hO:pkO l B out.length p with
   | none=>rfl
   | some o =>
    obtain ⟨o1,o2,o3⟩:=qrn k1.1 hp hO
    simp only[qwc,qv0,if_false,qvK]
    have hfr:gkc (pkF out out.length o.1.toNat)=0:=by
     unfold pkF
     split
     ·rw[qwg]
      by_cases hq:out.length-o.1.toNat<out.length
      ·rw[qvL hq];exact hg _ (qwe hq)
      ·rw[qv6 (by omega)];decide
     ·decide
    have hstep:∀ fr:qyo,fr=pkF out out.length o.1.toNat→((vz F (l.length:Int) (pk l) (o.2:Int) (out.length:Int) fr o.1 least (k:Int)).bind fun x488=>(if ((x488.2.2:Int) != 0) then some (([]:List (qyo)),false) else ((app 2199023255552 out ([x488.1]:List (qyo))).bind fun x494=>jA F (kJ F (n:Int) B least (k:Int) (l.length:Int) (pk l) j) (out.length:Int) x494 x488.2.1)))=some (match (rdl l o.2 (out.length:Int) (pkF out out.length o.1.toNat) o.1 least k).bind fun r=>pkR l B least k (n-(out.length+1)) (out++[r.1]) r.2 with | none=>([],false) | some r=>(r.1,decide (r.2=l.length))):=by
     intro fr hfe
     subst hfe
     rw[qiP hF k3 k4 hl hm (by unfold Nd;omega) o3 (fun _=>hfr) k2]
     simp only[qvK]
     cases hr:rdl l o.2 (out.length:Int) (pkF out out.length o.1.toNat) o.1 least k with
     | none=>rfl
     | some r =>
      obtain ⟨r1,r2,r3,r4,r5⟩:=qmE hl k3 hr
      simp only[qvK]
      rw[if_neg (by simp),yb (by simp;omega)]
      simp only[qvK]
      unfold jA
      have hl1:(out++[r.1]).length=out.length+1:=by simp
      have hrec:=qmz hF hl hm hh hn j r.2 (out++[r.1]) (by omega) (by omega) r5 (fun x hx=>by
       rcases List.mem_append.1 hx with hx | hx
       ·exact hg x hx
       ·simp at hx;subst hx;exact r1)
      rw[hl1] at hrec
      rw[qC (by omega),hrec]
    by_cases h0:0<o.1
    ·rw[if_pos (by simpa using h0),zB (by omega) (by omega),show ((out.length:Int)-o.1)=((out.length-o.1.toNat:Nat):Int) from by omega,qmf (by omega)]
     simp only[qvK]
     exact hstep _ (by unfold pkF;rw[if_pos (by omega)])
    ·rw[if_neg (by simpa using h0)]
     exact hstep _ (by unfold pkF;rw[if_neg (by omega)])
  ·rw[if_neg (by simp;omega),show n-out.length=0 from by omega]
   unfold qdu
   simp only[pkR]
   congr 2
   by_cases hpl:p=l.length
   ·subst hpl;simp
   ·rw[decide_eq_false hpl];simp;omega
def pcE (N B least k m:Int)(b:qyo):Int:=if N<0∨100<N then 3 else if hcE B least k≠0 then hcE B least k else chkOf m b
def prd (N B least k m:Int)(b:qyo):List (qyo)×Int :=
 if pcE N B least k m b≠0 then ([],pcE N B least k m b) else
 match pkR (bl b m.toNat) B least k.toNat N.toNat [] 0 with
 | none=>([],1)
 | some r=>if r.2=m.toNat∧pkE r.1 B least k=0∧pk (pkA r.1 B least k.toNat r.1.length).1=b then (r.1,0) else ([],1)
theorem qnB {F:Nat}{N B least k m:Int}{b:qyo}(hb:U8s b)(hm:I64 m)(lb:b.length≤9223372036854775807):qdy F N B least k m b=some (pcE N B least k m b):=by
 unfold qdy pcE
 by_cases h1:N<0∨100<N
 ·rw[if_pos (by simpa using h1),if_pos h1]
 ·rw[if_neg (by simpa using h1),if_neg h1,qew]
  simp only[qvK]
  by_cases h2:hcE B least k=0
  ·rw[if_neg (by simp[h2]),if_neg (by simp[h2]),qff hb hm.1 hm.2 lb]
   rfl
  ·rw[if_pos (by simpa using h2),if_pos h2]
theorem qrk {N B least k m:Int}{b:qyo}(hb:U8s b)(h:pcE N B least k m b=0):∃ (n:Nat) (l:qyo),N=(n:Int)∧n≤100∧hcE B least k=0∧Bit l∧l.length≤8192∧m=(l.length:Int)∧b=pk l:=by
 unfold pcE at h
 by_cases h1:N<0∨100<N
 ·rw[if_pos h1] at h;simp at h
 ·rw[if_neg h1] at h
  by_cases h2:hcE B least k=0
  ·rw[if_neg (by simp[h2])] at h
   rcases qfg hb (n:=m) with h3 | ⟨l,hl,hm,e1,e2⟩
   ·exact absurd h h3
   ·exact ⟨N.toNat,l,by omega,by omega,h2,hl,hm,e1,e2⟩
  ·rw[if_pos h2] at h;exact absurd h h2
theorem qgI {F:Nat}(hF:2000000≤F){N B least k m:Int}{b:qyo}(hb:U8s b)(hm:I64 m)(lb:b.length≤9223372036854775807):qaK F N B least k m b=some (prd N B least k m b):=by
 unfold qaK prd
 rw[qnB hb hm lb]
 simp only[qvK]
 by_cases h:pcE N B least k m b=0
 ·rw[if_neg (by simp[h]),if_neg (by simp[h])]
  obtain ⟨n,l,rfl,hn,hh,hl,hlm,rfl,rfl⟩:=qrk hb h
  obtain ⟨k1,k2,k',rfl,k3,k4⟩:=qcN hh
  have hL:=qmz (F:=F) hF hl hlm hh hn F 0 [] (by simp;omega) (qwn _) (qwn _) (by simp)
  have hL':qeE F (n:Int) B least (k':Int) (l.length:Int) (pk l)=_:=hL
  rw[hL']
  simp only[qvK,qwN,Nat.sub_zero,qvP,qcn hl]
  cases hr:pkR l B least k' n [] 0 with
  | none=>rfl
  | some r =>
   simp only
   by_cases hp:r.2=l.length
   ·rw[decide_eq_true hp,if_neg (by simp),qfu hF]
    simp only[qvK]
    unfold pwr qb9
    by_cases hE:pkE r.1 B least (k':Int)=0
    ·rw[if_neg (by simp[hE])]
     simp only[qvP]
     obtain ⟨_,_,hA⟩:=qcr hE
     rw[qvP] at hA
     rw[if_neg (by simp[hE]),peqb (by rw[qcP];omega) (by rw[qcP];omega)]
     simp only[qvK]
     by_cases hq:pk (pkA r.1 B least k' r.1.length).1=pk l
     ·rw[decide_eq_true hq,if_neg (by simp),if_pos ⟨hp,hE,hq⟩]
     ·rw[decide_eq_false hq,if_pos (by simp),if_neg (fun hc=>hq hc.2.2)]
    ·rw[if_pos hE,if_pos (by simpa using hE),if_pos rfl,if_neg (fun hc=>hE hc.2.1)]
   ·rw[decide_eq_false hp,if_pos (by simp),if_neg (fun hc=>hp hc.1)]
 ·rw[if_pos (by simpa using h),if_pos h]
theorem qrG {l:qyo}(hl:Bit l){p:Nat}{most:Int}{x:Int×Nat}(h:rgam l p most=some x):x.2=p+(ga x.1.toNat).length:=by
 have hf:=(qoY h).1
 unfold fg at hf
 cases hz:fz (l.drop p) with
 | none=>rw[hz] at hf;simp at hf
 | some k =>
  rw[hz] at hf
  simp only at hf
  unfold numOf at hf
  by_cases h1:64≤k
  ·rw[if_pos h1] at hf;simp at hf
  ·rw[if_neg h1] at hf
   by_cases h2:l.length<p+k+1+k
   ·rw[if_pos h2] at hf;simp at hf
   ·rw[if_neg h2] at hf
    by_cases h3:1099511627776<bv ((l.drop (p+k+1)).take k)+2^k-1
    ·rw[if_pos h3] at hf;simp at hf
    ·rw[if_neg h3] at hf
     simp only[qxa,and_true] at hf
     have hb:=qod (qev (qfe hl (p+k+1)) k)
     rw[qwb,List.length_drop,qw7 (by omega)] at hb
     have hp0:0<2^k:=qw5 (by decide)
     have hn:x.1.toNat=bv ((l.drop (p+k+1)).take k)+2^k-1:=by omega
     have hlg:lg x.1.toNat=k:=qpO (by omega) (by rw[Nat.pow_succ];omega)
     rw[qkX,hlg]
     omega
theorem qtf {l:qyo}(hl:Bit l){B:Int}(hB:0≤B){node p:Nat}{o:Int×Nat}(h:pkO l B node p=some o):o.2=p+(pkH B o.1.toNat).length:=by
 unfold pkO at h
 unfold pkH
 split at h
 ·rename_i h0
  simp only[qvY] at h
  subst h
  rw[if_neg (by omega)]
  simp
 ·rw[if_pos (by omega)]
  exact qrG hl h
theorem qme {g:List (qyo)}{x:qyo}{i:Nat}(h:i<g.length):(g++[x]).getD i []=g.getD i []:=by
 rw[qwg,qwg,List.getElem?_append_left h]
theorem qoL {g:List (qyo)}{x:qyo}{i r:Nat}(h:i≤g.length)(hr:r≤i):pkF (g++[x]) i r=pkF g i r:=by
 unfold pkF
 split
 ·exact qme (by omega)
 ·rfl
theorem qte {g:List (qyo)}{x:qyo}{B least:Int}{k i:Nat}(h:i<g.length):pkN (g++[x]) B least k i=pkN g B least k i:=by
 unfold pkN
 refine qjM fun r hr=>?_
 unfold pkW
 rw[qme h,qoL (by omega) (by omega)]
theorem qoK {g:List (qyo)}{x:qyo}{B least:Int}{k:Nat}:∀ {i:Nat},i≤g.length→pkA (g++[x]) B least k i=pkA g B least k i
 | 0,_=>rfl
 | i+1,h=>by
  unfold pkA
  rw[qoK (i:=i) (by omega),qte (by omega)]
theorem qmw {l:qyo}(hl:Bit l){B least:Int}{k:Nat}(hB:0≤B)(hk:1≤k):∀ (m p:Nat) (out:List (qyo)) (r:List (qyo)×Nat),pkR l B least k m out p=some r→p≤l.length→(pkA out B least k out.length).1.length≤p →
  r.1.length=out.length+m∧(pkA r.1 B least k r.1.length).1.length≤r.2
 | 0,p,out,r,h,_,hA=>by
  simp only[pkR,qvY] at h
  subst h
  exact ⟨rfl,hA⟩
 | m+1,p,out,r,h,hp,hA=>by
  unfold pkR at h
  rw[qwp] at h
  obtain ⟨o,ho,h⟩:=h
  rw[qwp] at h
  obtain ⟨d,hd,h⟩:=h
  obtain ⟨o1,o2,o3⟩:=qrn hB hp ho
  have hol:=qtf hl hB ho
  obtain ⟨d1,d2,d3,d4,d5⟩:=qmE hl hk hd
  have hn1:(out++[d.1]).length=out.length+1:=by simp
  have hmin:=qoe (pkW (out++[d.1]) B least k out.length) (n:=min B.toNat out.length) (r:=o.1.toNat) (by omega)
  have hW:(pkW (out++[d.1]) B least k out.length o.1.toNat).length=(pkH B o.1.toNat).length+(enc (out.length:Int) d.1 (pkF out out.length o.1.toNat) o.1 least k).length:=by
   unfold pkW
   rw[qvN,qoL (qv3 _) (by omega),show ((o.1.toNat:Nat):Int)=o.1 from by omega]
   congr 3
   rw[qwg,List.getElem?_append_right (qv3 _)]
   simp
  have hrec:=qmw hl hB hk m d.2 (out++[d.1]) r h d5 (by
   rw[hn1,pkA,qvN,qoK (qv3 _)]
   unfold pkN
   omega)
  rw[hn1] at hrec
  exact ⟨by omega,hrec.2⟩
theorem qfM {F:Nat}{xs:List (qyo)}(hm:xs.length≤1000000)(hr:∀ r∈xs,r.length≤1000000∧r.length<F):∀ (k i:Nat),xs.length<k+i→i≤xs.length→yF F xs xs k (i:Int)=some true
 | 0,_,_,_=>by omega
 | k+1,i,h,hi=>by
  show qa0 F xs xs (yF F xs xs k) (i:Int)=_
  unfold qa0
  by_cases hlt:i<xs.length
  ·have:=hr _ (qwe hlt)
   rw[if_pos (by simp;omega),qG,qvL hlt]
   simp only[qvK]
   rw[qaR this.2 this.1]
   simp only[qvK]
   rw[if_neg (by simp),qC (by omega)]
   exact qfM hm hr k (i+1) (by omega) (by omega)
  ·rw[if_neg (by simp;omega)]
   rfl
theorem qmB {F:Nat}{xs:List (qyo)}(hF:xs.length<F)(hm:xs.length≤1000000)(hr:∀ r∈xs,r.length≤1000000∧r.length<F):qc5 F xs xs=some true:=by
 unfold qc5
 rw[if_neg (by simp)]
 exact qfM hm hr F 0 (by omega) (by omega)
def PSm (g:List (qyo)):Prop:=g.length≤100∧∀ r∈g,r.length≤1200
theorem qmA {F:Nat}{g:List (qyo)}(hF:2000≤F)(h:PSm g):qc4 F g g=some true:=by
 unfold qc4
 have:=h.1
 rw[qmB (by omega) (by omega) (fun r hr=>by have:=h.2 r hr;omega)]
 rfl
theorem qu2 {g:List (qyo)}(h:Gr g):PSm g:=⟨h.1,fun r hr=>by have:=qii h hr;omega⟩
theorem qti {N B least k m:Int}{b:qyo}(h:(prd N B least k m b).2≠0):(prd N B least k m b).1=[]:=by
 unfold prd at h ⊢
 split
 ·rfl
 ·rename_i h1
  rw[if_neg h1] at h
  cases hr:pkR (bl b m.toNat) B least k.toNat N.toNat [] 0 with
  | none=>rfl
  | some r =>
   rw[hr] at h
   simp only at h ⊢
   split
   ·rename_i h2;rw[if_pos h2] at h;simp at h
   ·rfl
theorem qnC {g:List (qyo)}{B least k:Int}(h:pkE g B least k=0):prd (g.length:Int) B least k ((pkA g B least k.toNat g.length).1.length:Int) (pk (pkA g B least k.toNat g.length).1)=(g,0):=by
 obtain ⟨h1,h2,h3⟩:=qcr h
 have hg:=qdk.1 h1
 have hgl:=hg.1
 obtain ⟨k1,k2,k',rfl,k3,k4⟩:=qcN h2
 rw[qvP] at h3 ⊢
 have hE:pcE (g.length:Int) B least (k':Int) ((pkA g B least k' g.length).1.length:Int) (pk (pkA g B least k' g.length).1)=0:=by
  unfold pcE
  rw[if_neg (by omega),if_neg (by simp[h2]),qeJ h3]
 have hr:=qle hg h2 h3 [] g.length 0 (by omega)
 have hr':pkR (pkA g B least k' g.length).1 B least k' g.length [] 0=some (g,(pkA g B least k' g.length).1.length):=by
  rw[qwL] at hr
  exact hr
 unfold prd
 rw[if_neg (by simp[hE])]
 simp only[qvP]
 rw[qcn (qdC _),hr']
 simp only
 rw[if_pos ⟨trivial,h,trivial⟩]
theorem qrv {N B least k m:Int}{b:qyo}(hb:U8s b)(h:(prd N B least k m b).2=0):∃ g,prd N B least k m b=(g,0)∧pkE g B least k=0∧N=(g.length:Int)∧m=((pkA g B least k.toNat g.length).1.length:Int)∧b=pk (pkA g B least k.toNat g.length).1:=by
 have h0:=h
 unfold prd at h
 by_cases hE:pcE N B least k m b=0
 ·rw[if_neg (by simp[hE])] at h
  obtain ⟨n,l,rfl,hn,hh,hl,hlm,rfl,rfl⟩:=qrk hb hE
  obtain ⟨k1,k2,k',rfl,k3,k4⟩:=qcN hh
  simp only[qvP,qcn hl] at h
  cases hr:pkR l B least k' n [] 0 with
  | none=>rw[hr] at h;simp at h
  | some r =>
   rw[hr] at h
   simp only at h
   split at h
   ·rename_i hc
    obtain ⟨c1,c2,c3⟩:=hc
    obtain ⟨g1,g2,g3⟩:=qcr c2
    rw[qvP] at g3
    have hg:=qdk.1 g1
    obtain ⟨b1,b2⟩:=qmw hl k1.1 k3 n 0 [] r hr (qwn _) (by simp[pkA])
    rw[qwN,qwA] at b1
    have hq:l=(pkA r.1 B least k' r.1.length).1++l.drop (pkA r.1 B least k' r.1.length).1.length:=by
     have e1:l.take (pkA r.1 B least k' r.1.length).1.length=(pkA r.1 B least k' r.1.length).1:=by
      have:=qsL (b:=pk l) (n:=(pkA r.1 B least k' r.1.length).1.length) (m:=l.length) (by omega)
      rw[qcn hl,← c3,qcn (qdC _)] at this
      exact this
     conv=>lhs;rw[← qwD (pkA r.1 B least k' r.1.length).1.length l,e1]
    have hr2:=qle hg hh g3 (l.drop (pkA r.1 B least k' r.1.length).1.length) r.1.length 0 (by omega)
    rw[← hq] at hr2
    have hr3:pkR l B least k' n [] 0=some (r.1,(pkA r.1 B least k' r.1.length).1.length):=by
     rw[← b1];exact hr2
    rw[hr] at hr3
    have e2:r.2=(pkA r.1 B least k' r.1.length).1.length:=by
     have:=qxK hr3
     rw[this]
    refine ⟨r.1,?_,c2,by omega,by rw[qvP];omega,by rw[qvP];exact c3.symm⟩
    unfold prd
    rw[if_neg (by simp[hE])]
    simp only[qvP,qcn hl,hr]
    rw[if_pos ⟨c1,c2,c3⟩]
   ·simp at h
 ·rw[if_pos hE] at h
  exact absurd h hE
def pkSome:List (qyo):=[[1,2,3,5],[1,2,3,5],[0,1,2,3,5],[],[4],[1,2,3]]
theorem qro:pkE pkSome 3 3 2=0:=by decide +kernel
theorem qrq:(pkA pkSome 3 3 2 6).2=([0,1,1,0,0,0],[0,19,28,43,45,52]):=by decide +kernel
theorem qrp:prd 1 3 3 2 0 []=([],1):=by decide +kernel
theorem pbegun {F:Nat}(hF:2000000≤F):qcX F=some true:=by
 have hS:yD F=some pkSome:=rfl
 have hE:=qro
 have hg:=qdk.1 (qcr hE).1
 have h3:=(qcr hE).2.2
 have hR:=qnC hE
 unfold qcX vL
 rw[hS]
 simp only[qvK]
 rw[qfu hF]
 simp only[qvK]
 have hW:pwr pkSome 3 3 2=((pkSome.length:Int),3,3,2,((pkA pkSome 3 3 (2:Int).toNat pkSome.length).1.length:Int),pk (pkA pkSome 3 3 (2:Int).toNat pkSome.length).1,0):=by
  unfold pwr
  rw[if_neg (by simp[hE])]
 have hT:ptl pkSome 3 3 2=([0,1,1,0,0,0],[0,19,28,43,45,52],0):=by
  unfold ptl
  rw[if_neg (by simp[hE])]
  have:=qrq
  rw[show (2:Int).toNat=2 from rfl,show pkSome.length=6 from rfl]
  rw[show (pkA pkSome 3 3 2 6).2.1=[0,1,1,0,0,0] from by rw[this],show (pkA pkSome 3 3 2 6).2.2=[0,19,28,43,45,52] from by rw[this]]
 rw[hW]
 simp only
 rw[qgI hF (qdY (qdC _)) (qoA h3) (qhP h3),hR]
 simp only[qvK]
 rw[qiz hF,hT]
 simp only[qvK]
 rw[qgI hF (by intro y hy;simp at hy) ⟨by omega,by omega⟩ (by simp),qrp]
 simp only[qvK]
 rw[if_pos (by rfl),if_pos (by rfl),if_pos (by rfl),qmA (by omega) (qu2 hg)]
 simp only[qvK]
 rw[if_pos (by trivial),if_pos (by rfl),if_pos (by rfl)]
 rfl
theorem qny (l:qyo){i j:Nat}(h:i≤j):ones (l.take j)=ones (l.take i)+ones ((l.take j).drop i):=by
 conv=>lhs;rw[← qwD i (l.take j),qms,List.take_take,qw7 h]
theorem qpR {F:Nat}{m:Int}{l:qyo}(hF:20000≤F)(hl:Bit l)(hm:l.length≤10000){i j:Nat}(hj:j≤l.length)(hi:i≤j):qbO F m (pk l) (i:Int) (j:Int)=some ((ones ((l.take j).drop i):Nat):Int):=by
 unfold qbO
 obtain ⟨p,hp⟩:∃ p,p=ones (l.take i):=⟨_,rfl⟩
 have key:∀ (k i':Nat) (c:Nat),j<k+i'→i'≤j→c+ones (l.take j)≤ones (l.take i')+1000000+ones (l.take j) →
   vW F m (pk l) (j:Int) k ((c:Int),(i':Int))=some ((c+ones ((l.take j).drop i'):Nat):Int):=by
  intro k
  induction k with
  | zero=>intro i' c h;omega
  | succ k ih =>
   intro i' c h hi' hc
   show qcg F m (pk l) (j:Int) (vW F m (pk l) (j:Int) k) (c:Int) (i':Int)=_
   unfold qcg
   by_cases hlt:i'<j
   ·obtain ⟨x,hx,hx2⟩:=qt8 hl (i:=i') (by omega)
    have hx3:l[i']'(by omega)=(x:Int):=by rw[qvL (by omega)] at hx;exact qxK hx
    rw[if_pos (by simp;omega),qjJ hl (by omega) (by omega),hx3]
    simp only[qvK]
    have h2:=qoJ (qev hl i')
    have h3:(l.take i').length≤l.length:=by simp;omega
    have h1:ones (l.take (i'+1))=ones (l.take i')+x:=by
     rw[qxA,hx,qms];simp[ones]
    rw[qaQ (by omega),jr (by omega),qC (by omega),ih (i'+1) (c+x) (by omega) (by omega) (by omega)]
    have hd:(l.take j).drop i'=(x:Int)::(l.take j).drop (i'+1):=by
     rw[qvV (by simp;omega)]
     congr 1
     rw[List.getElem_take];exact hx3
    rw[hd]
    have:ones ((x:Int)::(l.take j).drop (i'+1))=x+ones ((l.take j).drop (i'+1)):=by simp[ones]
    rw[this,Nat.add_assoc]
   ·rw[if_neg (by simp;omega),qv1 (by simp;omega)]
    rfl
 have:=key F i 0 (by omega) hi (by omega)
 rw[qwA] at this
 exact this
def plc (bit:Int):qyo→Nat→Option Nat
 | [],_=>none
 | x::l,i=>if x=bit then (match i with | 0=>some 0 | i+1=>(plc bit l i).map (·+1)) else (plc bit l i).map (·+1)
theorem qiy (bit x:Int)(l:qyo)(i:Nat):plc bit (x::l) i=if x=bit then (match i with | 0=>some 0 | i+1=>(plc bit l i).map (·+1)) else (plc bit l i).map (·+1):=rfl
theorem qlf {F:Nat}{l:qyo}(hl:Bit l)(hm:l.length≤10000)(bit:Int):∀ (k j i:Nat),l.length<k+j→j≤l.length→i<9223372036854775808 →
  (∃ s,plc bit (l.drop j) i=none∧qS F (fun (x31:Int) (x37:Int)=>qT F x31 x37) (l.length:Int) (pk l) bit k ((j:Int),(i:Int))=some (.inl s)) ∨
  (∃ a q,plc bit (l.drop j) i=some a∧qS F (fun (x31:Int) (x37:Int)=>qT F x31 x37) (l.length:Int) (pk l) bit k ((j:Int),(i:Int))=some (.inr (((j+a:Nat):Int),q)))
 | 0,_,_,_,_,_=>by omega
 | k+1,j,i,h,hj,hi=>by
  have e:qS F (fun (x31:Int) (x37:Int)=>qT F x31 x37) (l.length:Int) (pk l) bit (k+1) ((j:Int),(i:Int)) =
   kV F (fun (x31:Int) (x37:Int)=>qT F x31 x37) (l.length:Int) (pk l) bit (qS F (fun (x31:Int) (x37:Int)=>qT F x31 x37) (l.length:Int) (pk l) bit k) (j:Int) (i:Int):=rfl
  rw[e]
  unfold kV
  by_cases hlt:j<l.length
  ·rw[if_pos (by simp;omega),qjJ hl (by omega) hlt,qvV hlt,qiy]
   simp only[qvK]
   by_cases h1:l[j]=bit
   ·rw[if_pos h1,if_pos (by simpa using h1)]
    cases i with
    | zero =>
     right
     exact ⟨0,0,rfl,rfl⟩
    | succ i =>
     have:qT F ((i+1:Nat):Int) (j:Int)=some (.inl (i:Int)):=by
      unfold qT
      rw[if_neg (by simp;omega),qco (by omega) (by omega),qwC]
     rw[this]
     simp only[qvK,Sum.elim_inl,kg]
     rw[qC (by omega)]
     rcases qlf (F:=F) hl hm bit k (j+1) i (by omega) (by omega) (by omega) with ⟨s,h2,h3⟩ | ⟨a,q,h2,h3⟩
     ·left;exact ⟨s,by rw[h2];rfl,h3⟩
     ·right;exact ⟨a+1,q,by rw[h2];rfl,by rw[h3,show j+1+a=j+(a+1) from by omega]⟩
   ·rw[if_neg h1,if_neg (by simpa using h1)]
    simp only[kg]
    rw[qC (by omega)]
    rcases qlf (F:=F) hl hm bit k (j+1) i (by omega) (by omega) hi with ⟨s,h2,h3⟩ | ⟨a,q,h2,h3⟩
    ·left;exact ⟨s,by rw[h2];rfl,h3⟩
    ·right;exact ⟨a+1,q,by rw[h2];rfl,by rw[h3,show j+1+a=j+(a+1) from by omega]⟩
  ·rw[if_neg (by simp;omega),qv1 (by omega)]
   left;exact ⟨_,rfl,rfl⟩
theorem qix {F:Nat}(hF:20000≤F){l:qyo}(hl:Bit l)(hm:l.length≤10000){bit:Int}{i:Nat}(hi:i<9223372036854775808) :
  vw F (l.length:Int) (pk l) bit (i:Int)=some (match plc bit l i with | none=>-1 | some a=>(a:Int)):=by
 unfold vw
 simp only[qdh,qvK,qbF]
 rcases qlf (F:=F) hl hm bit F 0 i (by omega) (by omega) hi with ⟨s,h2,h3⟩ | ⟨a,q,h2,h3⟩
 ·rw[qv5] at h2
  rw[show ((0:Nat):Int)=0 from rfl] at h3
  rw[h3,h2];rfl
 ·rw[qv5] at h2
  rw[show ((0:Nat):Int)=0 from rfl] at h3
  rw[h3,h2,qwA];rfl
theorem ql0:Bit []:=by intro x hx;simp at hx
theorem qnn {n m:Nat}(hm:m≤62)(h:n*2^m<9223372036854775808):ishl .i64 (n:Int) (m:Int)=((n*2^m:Nat):Int):=by
 unfold ishl
 have h1:min ((m:Int).toNat) (IntKind.bits .i64)=m:=by simp[IntKind.bits];omega
 rw[h1]
 have e:(n:Int)*2^m=((n*2^m:Nat):Int):=by rw[qw2,Int.natCast_pow];rfl
 rw[e]
 generalize n*2^m=q at h
 exact kE (by omega) (by omega)
theorem qnp {n m:Nat}(hm:m≤62):ishr .i64 (n:Int) (m:Int)=((n/2^m:Nat):Int):=by
 rw[qfs (by simp only[IntKind.bits];omega)]
 norm_cast
theorem quT {n m:Nat}(hm:m≤62)(hn:n<9223372036854775808):iand .i64 (n:Int) ((2^m-1:Nat):Int)=((n%2^m:Nat):Int):=by
 unfold iand
 have h1:(qwi (IntKind.bits .i64) (n:Int))=qwd 64 n:=by simp[IntKind.bits]
 have h2:(qwi (IntKind.bits .i64) ((2^m-1:Nat):Int))=qwd 64 (2^m-1):=by simp[IntKind.bits]
 have h3:2^m≤2^62:=qwu (by decide) hm
 rw[show (2:Nat)^62=4611686018427387904 from by decide] at h3
 rw[h1,h2]
 have h4:(qwd 64 n &&& qwd 64 (2^m-1)).toNat=n%2^m:=by
  rw[BitVec.toNat_and,qwB,qwB,qwj (a:=n) (by omega),qwj (a:=2^m-1) (by omega),Nat.and_two_pow_sub_one_eq_mod]
 show IntKind.wrap .i64 ((qwd 64 n &&& qwd 64 (2^m-1)).toNat:Int)=_
 rw[h4]
 have:=Nat.mod_le n (2^m)
 generalize n%2^m=q at this
 exact kE (by omega) (by omega)
theorem qk4 {a b:Nat}(h:a*b<9223372036854775808):imul .i64 (a:Int) (b:Int)=((a*b:Nat):Int):=by
 unfold imul
 rw[← qw2]
 generalize a*b=q at h
 exact kE (by omega) (by omega)
def wd (n t:Nat):Nat:=if n=0 then 0 else len ((t+1)/n)-1
theorem qt0 {n t w:Nat}(hn:n≠0):n*2^(w+1)≤t+1↔w<wd n t:=by
 unfold wd
 rw[if_neg hn]
 have h1:=qeq (x:=(t+1)/n) (k:=w+1)
 have h2:=Nat.le_div_iff_mul_le (x:=2^(w+1)) (y:=t+1) (k:=n) (by omega)
 rw[qxg] at h2
 omega
theorem qmZ {n t:Nat}(ht:t≤1048576):wd n t≤20:=by
 unfold wd
 split
 ·omega
 ·have h1:(t+1)/n≤t+1:=qwW _ _
  have h2:len ((t+1)/n)≤21:=qeq.2 (by omega)
  omega
theorem qpr {F n t:Nat}(hn:n≤300)(ht:t≤1048576):∀ (k w:Nat),wd n t<k+w→w≤wd n t →
  kU F (n:Int) (t:Int) k (w:Int)=some ((wd n t:Nat):Int)
 | 0,_,_,_=>by omega
 | k+1,w,h,hw=>by
  show qa4 F (n:Int) (t:Int) (kU F (n:Int) (t:Int) k) (w:Int)=_
  unfold qa4
  have h20:=qmZ (n:=n) ht
  by_cases h0:n=0
  ·subst h0
   have:wd 0 t=0:=rfl
   rw[if_neg (by simp)]
   unfold vR
   rw[if_neg (by simp)]
   obtain rfl:w=0:=by omega
   rw[this];rfl
  ·have hp:2^(w+1)≤2^21:=qwu (by decide) (by omega)
   have hm:n*2^(w+1)≤300*2^21:=qx6 hn hp
   rw[show (300:Nat)*2^21=629145600 from by decide] at hm
   have hc:decide ((0:Int)≤((w+1:Nat):Int))=true:=decide_eq_true (by omega)
   rw[if_pos (by simp;omega),qC (by omega),hc]
   simp only[chk,if_true]
   rw[qnn (by omega) (by omega),qC (by omega)]
   unfold vR
   have hs:=qt0 (n:=n) (t:=t) (w:=w) h0
   by_cases hlt:w<wd n t
   ·rw[if_pos (by simp only[decide_eq_true_eq];have:=hs.2 hlt;omega),qC (by omega)]
    exact qpr hn ht k (w+1) (by omega) (by omega)
   ·rw[if_neg (by simp only[decide_eq_true_eq];intro hh;exact hlt (hs.1 (by omega)))]
    obtain rfl:w=wd n t:=by omega
    rfl
theorem qm1 {F n t:Nat}(hF:20000≤F)(hn:n≤300)(ht:t≤1048576):qb2 F (n:Int) (t:Int)=some ((wd n t:Nat):Int):=by
 unfold qb2
 have:=qmZ (n:=n) ht
 exact qpr hn ht F 0 (by omega) (by omega)
def fk (t:Int):Int→qyo→Int
 | _,[]=>0
 | last,n::l=>if 0≤n∧n≤t then (if n<last then 4 else fk t n l) else 3
def fkc (l:qyo)(t:Int):Int:=if 0≤t∧t≤1048576 then (if 300<l.length then 2 else fk t 0 l) else 3
theorem ql8 {F:Nat}{t:Int}{l:qyo}(hm:l.length≤300):∀ (k i:Nat) (last:Int),l.length<k+i→i≤l.length →
  y9 F l t k (last,(i:Int))=some (fk t last (l.drop i))
 | 0,_,_,_,_=>by omega
 | k+1,i,last,h,hi=>by
  show qbu F l t (y9 F l t k) last (i:Int)=_
  unfold qbu
  by_cases hlt:i<l.length
  ·rw[if_pos (by simp;omega),qG,qvL hlt,qvV hlt,fk]
   simp only[qvK]
   by_cases h1:0≤l[i]∧l[i]≤t
   ·rw[if_pos h1,if_neg (by simp;omega)]
    by_cases h2:l[i]<last
    ·rw[if_pos h2,if_pos (by simpa using h2)]
    ·rw[if_neg h2,if_neg (by simpa using h2),qC (by omega)]
     exact ql8 hm k (i+1) _ (by omega) (by omega)
   ·rw[if_neg h1,if_pos (by simp;omega)]
  ·rw[if_neg (by simp;omega),qv1 (by omega)]
   rfl
theorem qjR {F:Nat}(hF:20000≤F){l:qyo}{t:Int}:qb0 F l t=some (fkc l t):=by
 unfold qb0 fkc
 by_cases h1:0≤t∧t≤1048576
 ·rw[if_pos h1,if_neg (by simp;omega)]
  by_cases h:300<l.length
  ·rw[if_pos h,if_pos (by simp;omega)]
  ·rw[if_neg h,if_neg (by simp;omega)]
   exact ql8 (by omega) F 0 0 (by omega) (by omega)
 ·rw[if_neg h1,if_pos (by simp;omega)]
def Up (t:Nat):Nat→List Nat→Prop
 | _,[]=>True
 | last,n::l=>last≤n∧n≤t∧Up t n l
def lc (l:List Nat):qyo:=l.map fun x:Nat=>(x:Int)
theorem qcp (l:List Nat):(lc l).length=l.length:=by simp[lc]
theorem qua {t:Nat}:∀ {l:qyo} {last:Nat},fk (t:Int) (last:Int) l=0↔∃ ns,l=lc ns∧Up t last ns
 | [],last=>by
  constructor
  ·intro _;exact ⟨[],rfl,trivial⟩
  ·intro _;rfl
 | n::l,last=>by
  unfold fk
  by_cases h1:0≤n∧n≤(t:Int)
  ·rw[if_pos h1]
   obtain ⟨n,rfl⟩:=qvS h1.1
   by_cases h2:(n:Int)<(last:Int)
   ·rw[if_pos h2]
    constructor
    ·intro h;simp at h
    ·rintro ⟨ns,e,hu⟩
     cases ns with
     | nil=>simp[lc] at e
     | cons m ns=>simp[lc] at e;have:=hu.1;omega
   ·rw[if_neg h2,qua]
    constructor
    ·rintro ⟨ns,rfl,hu⟩;exact ⟨n::ns,rfl,by omega,by omega,hu⟩
    ·rintro ⟨ns,e,hu⟩
     cases ns with
     | nil=>simp[lc] at e
     | cons m ns =>
      simp[lc] at e
      obtain ⟨e1,rfl⟩:=e
      obtain rfl:n=m:=by omega
      exact ⟨ns,rfl,hu.2.2⟩
  ·rw[if_neg h1]
   constructor
   ·intro h;simp at h
   ·rintro ⟨ns,e,hu⟩
    cases ns with
    | nil=>simp[lc] at e
    | cons m ns =>
     simp[lc] at e
     have:=hu.2.1
     exact absurd ⟨by omega,by omega⟩ h1
theorem qg3 {l:qyo}{t:Int}:fkc l t=0↔∃ (ns:List Nat) (k:Nat),t=k∧k≤1048576∧l=lc ns∧ns.length≤300∧Up k 0 ns:=by
 unfold fkc
 by_cases h1:0≤t∧t≤1048576
 ·rw[if_pos h1]
  obtain ⟨t,rfl⟩:=qvS h1.1
  by_cases h:300<l.length
  ·rw[if_pos h]
   constructor
   ·intro h;simp at h
   ·rintro ⟨ns,k,_,_,rfl,h3,_⟩;rw[qcp] at h;omega
  ·rw[if_neg h]
   have:=qua (t:=t) (l:=l) (last:=0)
   rw[show ((0:Nat):Int)=0 from rfl] at this
   rw[this]
   constructor
   ·rintro ⟨ns,rfl,hu⟩;exact ⟨ns,t,rfl,by omega,rfl,by rw[qcp] at h;omega,hu⟩
   ·rintro ⟨ns,k,e,_,rfl,_,hu⟩
    obtain rfl:t=k:=by omega
    exact ⟨ns,rfl,hu⟩
 ·rw[if_neg h1]
  constructor
  ·intro h;simp at h
  ·rintro ⟨ns,k,rfl,h2,_⟩;exact absurd ⟨by omega,by omega⟩ h1
theorem qpq {t:Nat}:∀ {l:List Nat} {a:Nat},Up t a l→∀ x∈l,a≤x∧x≤t
 | [],_,_=>by intro x hx;simp at hx
 | n::l,a,h=>by
  intro x hx
  rcases qvR.1 hx with rfl | hx
  ·exact ⟨h.1,h.2.1⟩
  ·have:=qpq h.2.2 x hx;have:=h.1;omega
def lo' (w:Nat)(l:List Nat):qyo:=l.flatMap fun x=>nb x w
theorem qfi (w x:Nat)(l:List Nat):lo' w (x::l)=nb x w++lo' w l:=rfl
theorem qoF (w:Nat):∀ l:List Nat,(lo' w l).length=l.length*w
 | []=>by simp[lo']
 | x::l=>by rw[qfi,qvN,qcq,qoF w l,qwa,qxe,qxy,qxq]
theorem qgB (w:Nat):∀ l:List Nat,Bit (lo' w l)
 | []=>by intro x hx;simp[lo'] at hx
 | x::l=>by rw[qfi];exact kp (qir _ _) (qgB w l)
def hp (w last:Nat):Nat→List Nat→qyo
 | a,[]=>qvU (last-a) 0
 | a,x::l=>qvU (x/2^w-a) 0++(1::hp w last (x/2^w) l)
theorem qg7 (w last:Nat):∀ (a:Nat) (l:List Nat),Bit (hp w last a l)
 | a,[]=>qeI _
 | a,x::l=>by
  rw[hp]
  exact kp (qeI _) (by
   intro y hy
   rcases qvR.1 hy with rfl | hy
   ·right;rfl
   ·exact qg7 w last _ l y hy)
theorem qq4 {w t:Nat}:∀ {a:Nat} {l:List Nat},Up t a l→(hp w (t/2^w+1) (a/2^w) l).length=l.length+(t/2^w+1-a/2^w)
 | a,[],_=>by simp[hp]
 | a,x::l,h=>by
  have h1:a/2^w≤x/2^w:=qw9 h.1
  have h2:x/2^w≤t/2^w:=qw9 h.2.1
  have:=qq4 (w:=w) h.2.2
  rw[hp,qvN,qww,qwa,qwa,this]
  omega
def loF (t:Nat)(l:List Nat):qyo:=lo' (wd l.length t) l
def hiF (t:Nat)(l:List Nat):qyo:=hp (wd l.length t) (t/2^wd l.length t+1) 0 l
theorem qee (t:Nat)(l:List Nat):(loF t l).length=l.length*wd l.length t:=qoF _ _
theorem qfq {t:Nat}{l:List Nat}(h:Up t 0 l):(hiF t l).length=l.length+(t/2^wd l.length t+1):=by
 have:=qq4 (w:=wd l.length t) h
 rw[Nat.zero_div,Nat.sub_zero] at this
 exact this
def Fits (t:Nat)(l:List Nat):Prop:=l.length*wd l.length t≤8192∧l.length+(t/2^wd l.length t+1)≤8192
instance fitsDec (t:Nat) (l:List Nat):Decidable (Fits t l):=inferInstanceAs (Decidable (_∧_))
theorem qrH {F:Nat}(hF:20000≤F){to:Nat}(hto:to≤10000):∀ (k a:Nat) (l:qyo),to<k+a→a≤to→Bit l→l.length+(to-a)≤8192 →
  zZ F (to:Int) k ((l.length:Int),pk l,(a:Int))=some (((l++qvU (to-a) 0).length:Int),pk (l++qvU (to-a) 0),(to:Int))
 | 0,_,_,_,_,_,_=>by omega
 | k+1,a,l,h,ha,hl,hm=>by
  show yT F (to:Int) (zZ F (to:Int) k) (l.length:Int) (pk l) (a:Int)=_
  unfold yT
  by_cases hlt:a<to
  ·have hadd:=qf2 (F:=F) (n:=0) (w:=1) (l:=l) (by decide) (by omega) hl (by omega) (by decide)
   rw[show ((0:Nat):Int)=0 from rfl,show ((1:Nat):Int)=1 from rfl,show nb 0 1=[0] from rfl] at hadd
   rw[if_pos (by simp;omega),hadd]
   simp only[qvK]
   rw[qC (by omega),qrH hF hto k (a+1) (l++[0]) (by omega) (by omega) (kp hl (qeI 1)) (by rw[qvN];simp;omega)]
   have e:l++[0]++qvU (to-(a+1)) 0=l++qvU (to-a) 0:=by
    rw[qvM,show to-a=(to-(a+1))+1 from by omega,qwG];rfl
   rw[e]
  ·rw[if_neg (by simp;omega),show to-a=0 from by omega]
   obtain rfl:a=to:=by omega
   simp
theorem qo0 {F:Nat}(hF:20000≤F){to a:Nat}{l:qyo}(ha:a≤to)(hto:to≤10000)(hl:Bit l)(hm:l.length+(to-a)≤8192) :
  yK F (l.length:Int) (pk l) (a:Int) (to:Int)=some (((l++qvU (to-a) 0).length:Int),pk (l++qvU (to-a) 0),(to:Int)):=by
 unfold yK
 exact qrH hF hto F a l (by omega) ha hl hm
def T8 (t:Nat)(l:List Nat)(e:Bool):Int×Int×Int×Int×qyo×Int×qyo×Bool :=
 ((l.length:Int),(t:Int),(wd l.length t:Int),((loF t l).length:Int),pk (loF t l),((hiF t l).length:Int),pk (hiF t l),e)
theorem quj {F w t:Nat}(hF:20000≤F)(hw:w≤20)(ht:t≤1048576){l:List Nat}(hlm:l.length≤300)(f1:l.length*w≤8192)(f2:l.length+(t/2^w+1)≤8192):∀ (k i:Nat) (q:Nat) (L H:qyo),l.length<k+i→i≤l.length→Up t q (l.drop i)→Bit L→Bit H→L.length+(l.length-i)*w≤8192→H.length+(l.length-i)+(t/2^w+1-q/2^w)≤8192→q≤t →
  jN F (lc l) (t:Int) (w:Int) k ((i:Int),(H.length:Int),pk H,((q/2^w:Nat):Int),(L.length:Int),pk L) =
   some ((l.length:Int),(t:Int),(w:Int),((L++lo' w (l.drop i)).length:Int),pk (L++lo' w (l.drop i)),((H++hp w (t/2^w+1) (q/2^w) (l.drop i)).length:Int),pk (H++hp w (t/2^w+1) (q/2^w) (l.drop i)),true)
 | 0,_,_,_,_,_,_,_,_,_,_,_,_=>by omega
 | k+1,i,q,L,H,h,hi,hu,hL,hH,hLm,hHm,hq=>by
  show qc8 F (lc l) (t:Int) (w:Int) (jN F (lc l) (t:Int) (w:Int) k) (i:Int) (H.length:Int) (pk H) ((q/2^w:Nat):Int) (L.length:Int) (pk L)=_
  unfold qc8
  have hqt:q/2^w≤t/2^w:=qw9 hq
  by_cases hlt:i<l.length
  ·rw[qvV hlt] at hu ⊢
   have hx1:=hu.1;have hx2:=hu.2.1;have hx3:=hu.2.2
   have hg:(lc l)[i]?=some ((l[i]:Nat):Int):=by simp[lc,hlt]
   have hc:decide ((0:Int)≤(w:Int))=true:=decide_eq_true (by omega)
   have hp20:2^w≤2^20:=qwu (by decide) hw
   rw[show (2:Nat)^20=1048576 from by decide] at hp20
   have hp0:0<2^w:=qw5 (by decide)
   have e1:ishl .i64 1 (w:Int)=((2^w:Nat):Int):=by
    have:=qnn (n:=1) (m:=w) (by omega) (by rw[qxy];omega)
    rwa [qxy] at this
   have hd1:q/2^w≤l[i]/2^w:=qw9 hx1
   have hd2:l[i]/2^w≤t/2^w:=qw9 hx2
   have hsplit:(l.length-i)*w=w+(l.length-(i+1))*w:=by
    rw[show l.length-i=(l.length-(i+1))+1 from by omega,qxe,qxy,qxq]
   rw[qcp,if_pos (by simp;omega),qG,hg]
   simp only[qvK]
   rw[hc]
   simp only[chk,if_true]
   have hmod:l[i]%2^w<18446744073709551616:=by have:=Nat.mod_le l[i] (2^w);omega
   rw[e1,qco (by omega) (by omega),quT (by omega) (by omega),yd hmod,qf2 hmod (by omega) hL (by omega) (by omega),qre (qv3 _)]
   simp only[qvK]
   rw[qnp (by omega),qo0 hF hd1 (by omega) hH (by omega)]
   simp only[qvK]
   have hadd:=qf2 (F:=F) (n:=1) (w:=1) (l:=H++qvU (l[i]/2^w-q/2^w) 0) (by decide) (by omega) (kp hH (qeI _)) (by rw[qvN,qww];omega) (by decide)
   rw[show ((1:Nat):Int)=1 from rfl,show nb 1 1=[1] from rfl] at hadd
   rw[hadd]
   simp only[qvK]
   rw[qC (by omega)]
   rw[quj hF hw ht hlm f1 f2 k (i+1) l[i] (L++nb l[i] w) (H++qvU (l[i]/2^w-q/2^w) 0++[1]) (by omega) (by omega) hx3 (kp hL (qir _ _)) (kp (kp hH (qeI _)) qob) (by rw[qvN,qcq];omega) (by rw[qvN,qvN,qww];simp;omega) hx2]
   rw[hp,qfi]
   simp[qvM]
  ·rw[qcp,if_neg (by simp;omega),qv1 (by omega)]
   unfold qem
   rw[qnp (by omega),qC (by omega),qo0 hF (by omega) (by omega) hH (by omega)]
   simp[lo',hp,qcp]
theorem qom {F t:Nat}(hF:20000≤F)(ht:t≤1048576){l:List Nat}(hlm:l.length≤300)(hu:Up t 0 l) :
  qdL F (lc l) (t:Int)=some (if Fits t l then T8 t l true else (0,0,0,0,[],0,[],false)):=by
 unfold qdL
 have hw:=qmZ (n:=l.length) ht
 have hc:decide ((0:Int)≤((wd l.length t:Nat):Int))=true:=decide_eq_true (by omega)
 have hdt:t/2^wd l.length t≤t:=qwW _ _
 have hmul:l.length*wd l.length t≤300*20:=qx6 hlm hw
 rw[qcp,qm1 hF hlm ht]
 simp only[qvK]
 rw[hc]
 simp only[chk,if_true]
 rw[qk4 (by omega),qnp (by omega),qC (by omega),jr (by omega)]
 by_cases hf:Fits t l
 ·rw[if_neg (by have h1:=hf.1;have h2:=hf.2;simp only[qw3,decide_eq_true_eq];omega),if_pos hf]
  have:=quj (F:=F) hF hw ht hlm hf.1 hf.2 F 0 0 [] [] (by omega) (by omega) (by rw[qv5];exact hu) ql0 ql0 (by simp;exact hf.1) (by simp;exact hf.2) (by omega)
  rw[qv5,qv8,qv8,Nat.zero_div] at this
  exact this
 ·rw[if_pos (by unfold Fits at hf;simp only[qw3,decide_eq_true_eq];omega),if_neg hf]
theorem qpV {F:Nat}{m e:Int}{b:qyo}(hb:U8s b)(hm:I64 m)(lb:b.length≤9223372036854775807):qcf F m b e=some (if chkOf m b≠0 then chkOf m b else if e<1∨64<e then 3 else 0):=by
 unfold qcf
 rw[qff hb hm.1 hm.2 lb]
 simp only[qvK]
 by_cases h1:chkOf m b=0
 ·rw[if_pos (by simpa using h1),if_neg (by simp[h1])]
  simp only[qbE,qbD]
  by_cases h:e<1∨64<e
  ·rw[if_pos h,if_pos (by simp;omega)]
  ·rw[if_neg h,if_neg (by simp;omega),h1]
 ·rw[if_neg (by simpa using h1),if_pos h1]
  rfl
def rkbt (l:qyo)(e n:Nat):qyo:=(qwm n).map fun k=>((ones (l.take (k*e)):Nat):Int)
theorem qiD (l:qyo)(e n:Nat):(rkbt l e n).length=n:=by simp[rkbt]
theorem qsO (l:qyo)(e n:Nat):rkbt l e (n+1)=rkbt l e n++[((ones (l.take (n*e)):Nat):Int)]:=by simp[rkbt,qx2]
theorem quG {l:qyo}{e n k:Nat}(h:k<n):(rkbt l e n)[k]?=some ((ones (l.take (k*e)):Nat):Int):=by simp[rkbt,h]
theorem quW {a b c:Nat}(h:a≤b):a*c≤b*c:=qwk c h
theorem qmn {n e:Nat}(h:1≤e):n<(n/e+1)*e:=by rw[qxg];exact Nat.lt_mul_div_succ n h
theorem qj7 {F:Nat}(hF:20000≤F){l:qyo}(hl:Bit l)(hm:l.length≤8192){e:Nat}(he:1≤e)(he2:e≤64):∀ (k n:Nat),l.length/e+1<k+n→1≤n→n≤l.length/e+1 →
  vd F (l.length:Int) (pk l) (e:Int) k (rkbt l e n,((n*e:Nat):Int))=some (rkbt l e (l.length/e+1))
 | 0,_,_,_,_=>by omega
 | k+1,n,h,h1,hn=>by
  show qbC F (l.length:Int) (pk l) (e:Int) (vd F (l.length:Int) (pk l) (e:Int) k) (rkbt l e n) ((n*e:Nat):Int)=_
  unfold qbC
  have hq:l.length/e*e≤l.length:=qxG _ _
  have hq2:l.length<(l.length/e+1)*e:=qmn he
  have hdl:l.length/e≤l.length:=qwW _ _
  by_cases hlt:n≤l.length/e
  ·have hne:n*e≤l.length:=Nat.le_trans (quW hlt) hq
   have hpe:(n-1)*e+e=n*e:=by rw[← qwI];congr 1;omega
   rw[if_pos (by simp;exact_mod_cast hne),qiD,qco h1 (by omega),qG,quG (by omega)]
   simp only[qvK]
   rw[qk5 (by omega) (by omega),show n*e-e=(n-1)*e from by omega,qpR hF hl (by omega) hne (by omega)]
   simp only[qvK]
   have ho:=qny l (i:=(n-1)*e) (j:=n*e) (by omega)
   have hle:=qoJ (qev hl (n*e))
   have hle2:(l.take (n*e)).length≤l.length:=by simp;omega
   rw[jr (by omega),← ho,yb (by rw[qiD];simp;omega),← qsO]
   simp only[qvK]
   rw[jr (by omega),show n*e+e=(n+1)*e from by rw[qxe,qxy]]
   exact qj7 hF hl hm he he2 k (n+1) (by omega) (by omega) (by omega)
  ·obtain rfl:n=l.length/e+1:=by omega
   have:¬ (l.length/e+1)*e≤l.length:=by omega
   rw[if_neg (by simp only[decide_eq_true_eq];exact_mod_cast this)]
   rfl
theorem qnE {F:Nat}(hF:20000≤F){l:qyo}(hl:Bit l)(hm:l.length≤8192){e:Nat}(he:1≤e)(he2:e≤64):qce F (l.length:Int) (pk l) (e:Int)=some (rkbt l e (l.length/e+1)):=by
 unfold qce
 have hdl:l.length/e≤l.length:=qwW _ _
 have hz:0≤l.length/e:=qwn _
 have:=qj7 hF hl hm he he2 F 1 (by omega) (by omega) (by omega)
 have h0:rkbt l e 1=[0]:=by simp[rkbt,ones]
 rw[qxy,h0] at this
 exact this
def bdOf (m:Int)(b:qyo)(e:Int):Int:=if chkOf m b≠0 then chkOf m b else if e<1∨64<e then 3 else 0
def rkbd (m:Int)(b:qyo)(e:Int):Int×qyo×Int:=if bdOf m b e≠0 then (0,[],bdOf m b e) else (e,rkbt (bl b m.toNat) e.toNat (m.toNat/e.toNat+1),0)
theorem qqq {m e:Int}{b:qyo}(h:chkOf m b≠0):bdOf m b e=chkOf m b:=by unfold bdOf;rw[if_pos h]
theorem qnc {l:qyo}{e:Int}(h1:l.length≤8192)(h:¬ (1≤e∧e≤64)):bdOf (l.length:Int) (pk l) e=3:=by
 unfold bdOf;rw[if_neg (by simp[qeJ h1]),if_pos (by omega)]
theorem qjK {l:qyo}{e:Int}(h1:l.length≤8192)(h:1≤e∧e≤64):bdOf (l.length:Int) (pk l) e=0:=by
 unfold bdOf;rw[if_neg (by simp[qeJ h1]),if_neg (by omega)]
theorem quz {m e:Int}{b:qyo}(h:bdOf m b e≠0):rkbd m b e=(0,[],bdOf m b e):=by unfold rkbd;rw[if_pos h]
theorem qsG {l:qyo}(hl:Bit l){e:Nat}(h1:l.length≤8192)(h:1≤e∧e≤64):rkbd (l.length:Int) (pk l) (e:Int)=((e:Int),rkbt l e (l.length/e+1),0):=by
 unfold rkbd;rw[qjK h1 (by omega),if_neg (by simp),qvP,qvP,qcn hl]
theorem qqr {m e:Int}{b:qyo}(hb:U8s b):bdOf m b e≠0∨∃ (l:qyo) (j:Nat),Bit l∧l.length≤8192∧m=(l.length:Int)∧b=pk l∧e=(j:Int)∧1≤j∧j≤64:=by
 rcases qfg hb (n:=m) with h | ⟨l,hl,hm,rfl,rfl⟩
 ·left;rw[qqq h];exact h
 ·by_cases h:1≤e∧e≤64
  ·obtain ⟨j,rfl⟩:=qvS (show 0≤e by omega)
   exact .inr ⟨l,j,hl,hm,rfl,rfl,rfl,by omega,by omega⟩
  ·left;rw[qnc hm h];decide
theorem qqw {F:Nat}(hF:20000≤F){m e:Int}{b:qyo}(hb:U8s b)(hm:I64 m)(lb:b.length≤9223372036854775807):qcd F m b e=some (rkbd m b e):=by
 unfold qcd
 rw[qpV hb hm lb]
 simp only[qvK]
 have hd:(if chkOf m b≠0 then chkOf m b else if e<1∨64<e then 3 else 0)=bdOf m b e:=rfl
 rw[hd]
 rcases qqr hb (m:=m) (e:=e) with h | ⟨l,j,hl,hlm,rfl,rfl,rfl,h1,h2⟩
 ·rw[if_pos (by simpa using h),quz h]
 ·rw[qjK hlm (by omega),if_neg (by simp),qnE hF hl hlm h1 h2,qsG hl hlm ⟨h1,h2⟩]
  rfl
def nl (l:qyo):List Nat:=l.map Int.toNat
theorem qmq (l:List Nat):nl (lc l)=l:=by
 induction l with
 | nil=>rfl
 | cons x l ih=>simp only[nl,lc,List.map_cons,qvP] at ih ⊢;rw[ih]
abbrev F8:=Int×Int×Int×Int×qyo×Int×qyo×Int
def fz8 (e:Int):F8:=(0,0,0,0,[],0,[],e)
def fo8 (t:Nat)(l:List Nat):F8:=((l.length:Int),(t:Int),(wd l.length t:Int),((loF t l).length:Int),pk (loF t l),((hiF t l).length:Int),pk (hiF t l),0)
def fw (l:qyo)(t:Int):F8:=if fkc l t≠0 then fz8 (fkc l t) else if Fits t.toNat (nl l) then fo8 t.toNat (nl l) else fz8 8
theorem qqQ {l:qyo}{t:Int}(h:fkc l t≠0):fw l t=fz8 (fkc l t):=by unfold fw;rw[if_pos h]
theorem qoo {l:List Nat}{t:Nat}(ht:t≤1048576)(hlm:l.length≤300)(hu:Up t 0 l):fkc (lc l) (t:Int)=0∧fw (lc l) (t:Int)=if Fits t l then fo8 t l else fz8 8:=by
 have h:fkc (lc l) (t:Int)=0:=qg3.2 ⟨l,t,rfl,ht,rfl,hlm,hu⟩
 refine ⟨h,?_⟩
 unfold fw
 rw[h,if_neg (by simp),qvP,qmq]
theorem qjU {F:Nat}(hF:20000≤F){l:qyo}{t:Int}:vt F l t=some (fw l t):=by
 unfold vt
 rw[qjR hF]
 simp only[qvK]
 by_cases h:fkc l t=0
 ·obtain ⟨ns,k,rfl,hk,rfl,hm,hu⟩:=qg3.1 h
  rw[(qoo hk hm hu).2,h,if_neg (by simp),qom hF hk hm hu]
  simp only[qvK]
  by_cases hf:Fits k ns
  ·rw[if_pos hf,if_pos hf];rfl
  ·rw[if_neg hf,if_neg hf];rfl
 ·rw[if_pos (by simpa using h),qqQ h];rfl
theorem qoO (k:Nat)(r:qyo)(i:Nat):plc 1 (qvU k 0++r) i=(plc 1 r i).map (·+k):=by
 induction k with
 | zero=>simp
 | succ k ih =>
  rw[qwG,qwQ,qiy,if_neg (by decide),ih,Option.map_map]
  congr 1
theorem qrt {w last:Nat}:∀ {l:List Nat} {a i:Nat},(∀ x∈l,a≤x/2^w)→(∀ j x,l[j]?=some x→∀ y∈l.drop (j+1),x/2^w≤y/2^w) →
  plc 1 (hp w last a l) i=(l[i]?).map fun x=>x/2^w-a+i
 | [],a,i,_,_=>by
  have:=qoO (last-a) [] i
  rw[qwL] at this
  rw[hp,this];rfl
 | x::l,a,i,h,hs=>by
  have hx:=h x qwf
  rw[hp,qoO,qiy,if_pos rfl]
  cases i with
  | zero=>simp
  | succ i =>
   simp only
   have h0:=hs 0 x rfl
   rw[qwV,qv5] at h0
   rw[qrt (a:=x/2^w) h0 (fun j y hj=>by
    have:=hs (j+1) y (by simpa using hj)
    rwa [qwV] at this)]
   simp only[List.getElem?_cons_succ,Option.map_map]
   cases hl:l[i]? with
   | none=>rfl
   | some y =>
    have:=h0 y (qvO hl)
    simp only[qwo,Function.comp]
    congr 1
    omega
theorem qlx {t w:Nat}:∀ {l:List Nat} {a:Nat},Up t a l→∀ j x,l[j]?=some x→∀ y∈l.drop (j+1),x/2^w≤y/2^w
 | [],_,_,j,x,h=>by simp at h
 | n::l,a,h,0,x,hx=>by
  simp at hx;subst hx
  intro y hy
  rw[qwV,qv5] at hy
  exact qw9 (qpq h.2.2 y hy).1
 | n::l,a,h,j+1,x,hx=>by
  intro y hy
  rw[qwV] at hy
  exact qlx h.2.2 j x (by simpa using hx) y hy
theorem qoN {t:Nat}{l:List Nat}(h:Up t 0 l)(i:Nat):plc 1 (hiF t l) i=(l[i]?).map fun x=>x/2^wd l.length t+i:=by
 unfold hiF
 rw[qrt (fun x _=>qwn _) (qlx h)]
 simp
theorem qnv {w:Nat}:∀ {l:List Nat} {i x:Nat},l[i]?=some x→((lo' w l).drop (i*w)).take w=nb x w
 | [],i,x,h=>by simp at h
 | y::l,0,x,h=>by
  simp at h;subst h
  rw[Nat.zero_mul,qv5,qfi,List.take_left' (qcq _ _)]
 | y::l,i+1,x,h=>by
  rw[qfi,qxe,qxy,qxq,← List.drop_drop,List.drop_left' (qcq _ _)]
  exact qnv (by simpa using h)
theorem qvr {a b m:Nat}(ha:a<2^m)(hb:b%2^m=0)(h:a+b<9223372036854775808):ior .i64 (b:Int) (a:Int)=((b+a:Nat):Int):=by
 unfold ior
 have h1:(qwi (IntKind.bits .i64) (b:Int))=qwd 64 b:=by simp[IntKind.bits]
 have h2:(qwi (IntKind.bits .i64) (a:Int))=qwd 64 a:=by simp[IntKind.bits]
 rw[h1,h2]
 have h3:b ||| a=b+a:=by
  have hy2:b=2^m*(b/2^m):=by have:=qx1 b (2^m);omega
  have h4:=Nat.two_pow_add_eq_or_of_lt ha (b/2^m)
  rw[← hy2] at h4
  rw[← h4]
 have h4:(qwd 64 b ||| qwd 64 a).toNat=b+a:=by
  rw[BitVec.toNat_or,qwB,qwB,qwj (a:=b) (by omega),qwj (a:=a) (by omega),h3]
 show IntKind.wrap .i64 ((qwd 64 b ||| qwd 64 a).toNat:Int)=_
 rw[h4]
 exact kE (by omega) (by omega)
theorem qqJ {F t i x:Nat}(hF:20000≤F)(ht:t≤1048576){l:List Nat}(hlm:l.length≤300)(hu:Up t 0 l)(hf:Fits t l)(hx:l[i]?=some x) :
  qa3 F (l.length:Int) (t:Int) (wd l.length t:Int) ((loF t l).length:Int) (pk (loF t l)) ((hiF t l).length:Int) (pk (hiF t l)) (i:Int)=some (x:Int):=by
 unfold qa3
 have hw:=qmZ (n:=l.length) ht
 have hi:i<l.length:=(List.getElem?_eq_some_iff.1 hx).1
 have hL:(loF t l).length≤8192:=by rw[qee];exact hf.1
 have hH:(hiF t l).length≤8192:=by rw[qfq hu];exact hf.2
 have hxt:=(qpq hu x (qvO hx)).2
 have hmul:i*wd l.length t+wd l.length t≤(loF t l).length:=by
  rw[qee,← qwI];exact qwk _ hi
 rw[qix hF (l:=hiF t l) (qg7 _ _ _ _) (by omega) (by omega),qoN hu,hx]
 simp only[qwo,qvK]
 have hdx:x/2^wd l.length t≤x:=qwW _ _
 have hz:0≤x/2^wd l.length t:=qwn _
 rw[qk4 (by omega),qeR (l:=loF t l) (by omega) (qgB _ _) hL (by omega) (by omega),if_pos hmul]
 simp only[qvK]
 have hc:decide ((0:Int)≤((wd l.length t:Nat):Int))=true:=decide_eq_true (by omega)
 rw[hc]
 simp only[chk,if_true,lett]
 have hg:((loF t l).drop (i*wd l.length t)).take (wd l.length t)=nb x (wd l.length t):=qnv hx
 have hp20:2^wd l.length t≤2^20:=qwu (by decide) hw
 rw[show (2:Nat)^20=1048576 from by decide] at hp20
 have hml:=Nat.mod_lt x (show 0<2^wd l.length t from qw5 (by decide))
 have hdm:=qx1 x (2^wd l.length t)
 have hdm2:x/2^wd l.length t*2^wd l.length t≤x:=qxG _ _
 rw[hg,qh6,qk5 (by omega) (by omega),qwC,qnn (by omega) (by omega),qaQ (by omega),qvr (m:=wd l.length t) hml (Nat.mul_mod_left _ _) (by omega)]
 rw[qxg] at hdm
 rw[hdm]
theorem qhb {F:Nat}{l:qyo}(hl:Bit l)(hm:l.length≤10000)(bit:Int):∀ (k j c:Nat),l.length<k+j→j≤l.length→1≤c→c+(l.length-j)≤100000 →
  ∃ s,qS F (fun (x31:Int) (x37:Int)=>qT F x31 x37) (l.length:Int) (pk l) bit k ((j:Int),-(c:Int))=some (.inl s)
 | 0,_,_,_,_,_,_=>by omega
 | k+1,j,c,h,hj,hc,hcm=>by
  have e:qS F (fun (x31:Int) (x37:Int)=>qT F x31 x37) (l.length:Int) (pk l) bit (k+1) ((j:Int),-(c:Int)) =
   kV F (fun (x31:Int) (x37:Int)=>qT F x31 x37) (l.length:Int) (pk l) bit (qS F (fun (x31:Int) (x37:Int)=>qT F x31 x37) (l.length:Int) (pk l) bit k) (j:Int) (-(c:Int)):=rfl
  rw[e]
  unfold kV
  by_cases hlt:j<l.length
  ·rw[if_pos (by simp;omega),qjJ hl (by omega) hlt]
   simp only[qvK]
   have hr:qT F (-(c:Int)) (j:Int)=some (.inl (-((c+1:Nat):Int))):=by
    unfold qT
    rw[if_neg (by simp;omega),zB (by omega) (by omega)]
    congr 2;omega
   by_cases h1:l[j]=bit
   ·rw[if_pos (by simpa using h1),hr]
    simp only[qvK,Sum.elim_inl,kg]
    rw[qC (by omega)]
    exact qhb hl hm bit k (j+1) (c+1) (by omega) (by omega) (by omega) (by omega)
   ·rw[if_neg (by simpa using h1)]
    simp only[kg]
    rw[qC (by omega)]
    exact qhb hl hm bit k (j+1) c (by omega) (by omega) hc (by omega)
  ·rw[if_neg (by simp;omega)]
   exact ⟨_,rfl⟩
theorem qrs {F:Nat}(hF:20000≤F){l:qyo}(hl:Bit l)(hm:l.length≤10000){bit:Int}:vw F (l.length:Int) (pk l) bit (-1)=some (-1):=by
 unfold vw
 simp only[qdh,qvK,qbF]
 obtain ⟨s,hs⟩:=qhb (F:=F) hl hm bit F 0 1 (by omega) (by omega) (by omega) (by omega)
 have h2:qS F (fun (x31:Int) (x37:Int)=>qT F x31 x37) (l.length:Int) (pk l) bit F (0,-1)=some (.inl s):=hs
 rw[h2]
 rfl
theorem qqK {F:Nat}{xs ys:qyo}(he:xs.length=ys.length)(hm:xs.length≤9223372036854775807):∀ (k i:Nat),xs.length<k+i→i≤xs.length→qR F xs ys k (i:Int)=some (decide (xs.drop i=ys.drop i))
 | 0,_,_,_=>by omega
 | k+1,i,h,hi=>by
  show zo F xs ys (qR F xs ys k) (i:Int)=_
  unfold zo
  by_cases hlt:i<xs.length
  ·have hlt':i<ys.length:=by omega
   rw[if_pos (by simp;omega),qG,qvL hlt,qG,qvL hlt']
   simp only[qvK]
   rw[qvV hlt,qvV hlt']
   by_cases hc:xs[i]=ys[i]
   ·rw[if_neg (by simp[hc]),qC (by omega),qqK he hm k (i+1) (by omega) (by omega)]
    congr 1
    rw[decide_eq_decide,qxi]
    exact ⟨fun h=>⟨hc,h⟩,fun h=>h.2⟩
   ·rw[if_pos (by simpa using hc),decide_eq_false (fun e=>hc (qyi e).1)]
  ·rw[if_neg (by simp;omega),qv1 (by omega),qv1 (by omega)]
   rfl
theorem feqb {F:Nat}{xs ys:qyo}(hF:xs.length<F)(hm:xs.length≤9223372036854775807):qU F xs ys=some (decide (xs=ys)):=by
 unfold qU
 by_cases h:xs.length=ys.length
 ·rw[if_neg (by simp[h])]
  have:=qqK (F:=F) h hm F 0 (by omega) (qwn _)
  rw[qv5,qv5] at this
  exact this
 ·rw[if_pos (by simp;omega),decide_eq_false (fun e=>h (by rw[e]))]
theorem qmc {F:Nat}{n m:Int}{xs ys:qyo}(hF:xs.length<F)(hm:xs.length≤9223372036854775807):qdo F n xs m ys=some (decide (n=m∧xs=ys)):=by
 unfold qdo
 by_cases h:n=m
 ·have hb:(n == m)=true:=by simp[h]
  rw[if_pos hb,feqb hF hm]
  simp[qaD,h]
 ·have hb:(n == m)=false:=by simpa using h
  rw[hb]
  simp[qaD,h]
def FWr (t:Nat)(ns:List Nat)(lw:Int)(lb:qyo)(hw:Int)(hb:qyo):Prop :=
 ns.length≤300∧Up t 0 ns∧Fits t ns∧lw=((loF t ns).length:Int)∧lb=pk (loF t ns)∧hw=((hiF t ns).length:Int)∧hb=pk (hiF t ns)
theorem qvt {F t:Nat}(hF:20000≤F)(ht:t≤1048576){lw hw:Int}{lb hb out:qyo} :
  (∃ ns,out=lc ns∧FWr t ns lw lb hw hb∧yg F (t:Int) lw lb hw hb out=some (out,0)) ∨
  ((¬ ∃ ns,out=lc ns∧FWr t ns lw lb hw hb)∧yg F (t:Int) lw lb hw hb out=some ([],1)):=by
 unfold yg
 rw[qjR hF]
 simp only[qvK]
 by_cases h:fkc out (t:Int)=0
 ·obtain ⟨ns,k,e,hk,rfl,hm,hu⟩:=qg3.1 h
  obtain rfl:t=k:=by omega
  rw[h,if_neg (by simp),qom hF hk hm hu]
  simp only[qvK]
  have huniq:∀ ns',lc ns=lc ns'→ns=ns':=fun ns' e=>by have:=congrArg nl e;rwa [qmq,qmq] at this
  by_cases hf:Fits t ns
  ·have hL:(loF t ns).length≤8192:=by rw[qee];exact hf.1
   have hH:(hiF t ns).length≤8192:=by rw[qfq hu];exact hf.2
   have hpL:=qmx hL
   have hpH:=qmx hH
   rw[if_pos hf]
   simp only[T8,qwc,qv0,if_false]
   rw[qmc (by omega) (by omega)]
   simp only[qvK]
   by_cases h1:((loF t ns).length:Int)=lw∧pk (loF t ns)=lb
   ·rw[decide_eq_true h1]
    simp only[qwc,qae,qv0,if_false]
    rw[qmc (by omega) (by omega)]
    simp only[qvK]
    by_cases h2:((hiF t ns).length:Int)=hw∧pk (hiF t ns)=hb
    ·rw[decide_eq_true h2]
     left
     exact ⟨ns,rfl,⟨hm,hu,hf,h1.1.symm,h1.2.symm,h2.1.symm,h2.2.symm⟩,rfl⟩
    ·rw[decide_eq_false h2]
     right
     refine ⟨?_,rfl⟩
     rintro ⟨ns',e1,w⟩
     rw[← huniq ns' e1] at w
     exact h2 ⟨w.2.2.2.2.2.1.symm,w.2.2.2.2.2.2.symm⟩
   ·rw[decide_eq_false h1]
    right
    refine ⟨?_,rfl⟩
    rintro ⟨ns',e1,w⟩
    rw[← huniq ns' e1] at w
    exact h1 ⟨w.2.2.2.1.symm,w.2.2.2.2.1.symm⟩
  ·rw[if_neg hf]
   right
   refine ⟨?_,rfl⟩
   rintro ⟨ns',e1,w⟩
   rw[← huniq ns' e1] at w
   exact hf w.2.2.1
 ·rw[if_pos (by simpa using h)]
  right
  refine ⟨?_,rfl⟩
  rintro ⟨ns,rfl,w⟩
  exact h (qg3.2 ⟨ns,t,rfl,ht,rfl,w.1,w.2.1⟩)
def Good (l:List Nat)(n t w lw:Int)(lb:qyo)(hw:Int)(hb:qyo):Prop :=
 ∃ k:Nat,t=k∧k≤1048576∧n=(l.length:Int)∧w=((wd l.length k:Nat):Int)∧FWr k l lw lb hw hb
def Rg (n t:Int):Prop:=0≤n∧n≤300∧0≤t∧t≤1048576
instance rgDec (n t:Int):Decidable (Rg n t):=inferInstanceAs (Decidable (_∧_))
theorem qs1 {l:List Nat}{n t w lw hw:Int}{lb hb:qyo}(h:Good l n t w lw lb hw hb):Rg n t:=by
 obtain ⟨k,rfl,hk,rfl,_,h1,_⟩:=h
 exact ⟨by omega,by omega,by omega,by omega⟩
theorem qrg {F t n w:Nat}{lw hw:Int}{lb hb:qyo}(f:Nat→Int)(hn:n≤300)(hat:∀ i,i<n→qa3 F (n:Int) (t:Int) (w:Int) lw lb hw hb (i:Int)=some (f i)):∀ (k i:Nat),n<k+i→i≤n →
  yh F (n:Int) (t:Int) (w:Int) lw lb hw hb k ((qwm i).map f,(i:Int))=yg F (t:Int) lw lb hw hb ((qwm n).map f)
 | 0,_,_,_=>by omega
 | k+1,i,h,hi=>by
  show qad F (n:Int) (t:Int) (w:Int) lw lb hw hb (yh F (n:Int) (t:Int) (w:Int) lw lb hw hb k) ((qwm i).map f) (i:Int)=_
  unfold qad
  by_cases hlt:i<n
  ·rw[if_pos (by simp;omega),hat i hlt]
   simp only[qvK]
   rw[yb (by simp;omega),qC (by omega)]
   simp only[qvK]
   have e:(qwm i).map f++[f i]=(qwm (i+1)).map f:=by rw[qx2,qw6];rfl
   rw[e]
   exact qrg f hn hat k (i+1) (by omega) (by omega)
  ·rw[if_neg (by simp;omega)]
   obtain rfl:i=n:=by omega
   rfl
theorem qfL {F:Nat}(hF:20000≤F){n t w lw hw:Int}{lb hb:qyo}(ul:U8s lb)(uh:U8s hb)(il:I64 lw)(ih:I64 hw)(ll:lb.length≤9223372036854775807)(lh:hb.length≤9223372036854775807) :
  (∃ l,Good l n t w lw lb hw hb∧kq F n t w lw lb hw hb=some (lc l,0)) ∨
  ((¬ ∃ l,Good l n t w lw lb hw hb)∧kq F n t w lw lb hw hb=some ([],if Rg n t then 1 else 3)):=by
 unfold kq
 by_cases hr:Rg n t
 ·obtain ⟨n,rfl⟩:=qvS hr.1
  obtain ⟨t,rfl⟩:=qvS hr.2.2.1
  have hn:n≤300:=by have:=hr.2.1;omega
  have ht:t≤1048576:=by have:=hr.2.2.2;omega
  have hw20:=qmZ (n:=n) ht
  rw[if_neg (by simp;omega),if_pos hr,qm1 hF hn ht]
  simp only[qvK]
  by_cases hw1:w=((wd n t:Nat):Int)
  ·subst hw1
   rw[if_neg (by simp),qff ul il.1 il.2 ll]
   simp only[qvK]
   rcases qfg ul (n:=lw) with h1 | ⟨L,hL,hLm,rfl,rfl⟩
   ·right
    refine ⟨?_,by rw[if_pos (by simpa using h1)];rfl⟩
    rintro ⟨l,k,e,hk,e2,_,g1,g2,g3,rfl,rfl,_⟩
    exact h1 (qeJ (by rw[qee];exact g3.1))
   rw[qeJ hLm,if_neg (by simp),qff uh ih.1 ih.2 lh]
   simp only[qvK]
   rcases qfg uh (n:=hw) with h1 | ⟨H,hH,hHm,rfl,rfl⟩
   ·right
    refine ⟨?_,by rw[if_pos (by simpa using h1)];rfl⟩
    rintro ⟨l,k,e,hk,e2,_,g1,g2,g3,_,_,rfl,rfl⟩
    exact h1 (qeJ (by rw[qfq g2];exact g3.2))
   have hmul:n*wd n t≤300*20:=qx6 hn hw20
   rw[qeJ hHm,if_neg (by simp),qk4 (by omega)]
   by_cases hl1:L.length=n*wd n t
   ·rw[if_neg (by rw[hl1];simp)]
    have hfin:(n=0∨∃ q,plc 1 H (n-1)=some q) →
      (∃ l,Good l (n:Int) (t:Int) ((wd n t:Nat):Int) (L.length:Int) (pk L) (H.length:Int) (pk H)∧zz F (n:Int) (t:Int) ((wd n t:Nat):Int) (L.length:Int) (pk L) (H.length:Int) (pk H) false=some (lc l,0)) ∨
      ((¬ ∃ l,Good l (n:Int) (t:Int) ((wd n t:Nat):Int) (L.length:Int) (pk L) (H.length:Int) (pk H))∧zz F (n:Int) (t:Int) ((wd n t:Nat):Int) (L.length:Int) (pk L) (H.length:Int) (pk H) false=some ([],1)):=by
     intro hpl
     unfold zz
     rw[if_neg (by simp)]
     have hat:∃ f:Nat→Int,∀ i,i<n→qa3 F (n:Int) (t:Int) ((wd n t:Nat):Int) (L.length:Int) (pk L) (H.length:Int) (pk H) (i:Int)=some (f i):=by
      have h1:∀ i,∃ v:Int,i<n→qa3 F (n:Int) (t:Int) ((wd n t:Nat):Int) (L.length:Int) (pk L) (H.length:Int) (pk H) (i:Int)=some v:=by
       intro i
       by_cases hi:i<n
       ·unfold qa3
        have hm2:i*wd n t+wd n t≤L.length:=by rw[hl1,← qwI];exact qwk _ hi
        have hc:decide ((0:Int)≤((wd n t:Nat):Int))=true:=decide_eq_true (by omega)
        rw[qix hF hH (by omega) (by omega)]
        simp only[qvK]
        rw[qk4 (by omega),qeR (by omega) hL hLm (by omega) (by omega)]
        simp only[qvK]
        rw[hc]
        simp only[chk,if_true,lett]
        exact ⟨_,fun _=>rfl⟩
       ·exact ⟨0,fun h=>absurd h hi⟩
      exact ⟨fun i=>Classical.choose (h1 i),fun i hi=>Classical.choose_spec (h1 i) hi⟩
     obtain ⟨f,hat⟩:=hat
     have hl9:=qrg (F:=F) (t:=t) (n:=n) (w:=wd n t) f hn hat F 0 (by omega) (by omega)
     rw[show (qwm 0).map f=[] from rfl,show ((0:Nat):Int)=0 from rfl] at hl9
     rw[hl9]
     rcases qvt (F:=F) (t:=t) hF ht (lw:=(L.length:Int)) (lb:=pk L) (hw:=(H.length:Int)) (hb:=pk H) (out:=(qwm n).map f) with ⟨ns,e,w,hM⟩ | ⟨hno,hM⟩
     ·have hnl:ns.length=n:=by have:=congrArg qxF e;rw[qcp] at this;simp at this;omega
      left
      exact ⟨ns,⟨t,rfl,ht,by rw[hnl],by rw[hnl],w⟩,by rw[hM,e]⟩
     ·right
      refine ⟨?_,hM⟩
      rintro ⟨l,k,e1,hk,e2,e3,w⟩
      obtain rfl:t=k:=by omega
      have hnl:n=l.length:=by omega
      apply hno
      refine ⟨l,?_,w⟩
      obtain ⟨w1,w2,w3,w4,w5,w6,w7⟩:=w
      apply List.ext_getElem?
      intro i
      by_cases hi:i<n
      ·have hx:l[i]?=some l[i]:=qvL (by omega)
       have h2:=qqJ hF ht w1 w2 w3 hx
       have h3:=hat i hi
       rw[hnl,w4,w5,w6,w7,h2] at h3
       have h4:(lc l)[i]?=some ((l[i]:Nat):Int):=by simp[lc,show i<l.length by omega]
       rw[h4,qwK,qxt hi]
       exact h3.symm
      ·rw[qv6 (by simp;omega),qv6 (by rw[qcp];omega)]
    have hnoform:n≠0→plc 1 H (n-1)=none→¬ ∃ l,Good l (n:Int) (t:Int) ((wd n t:Nat):Int) (L.length:Int) (pk L) (H.length:Int) (pk H):=by
     rintro h0 hp ⟨l,k,e1,hk,e2,e3,w1,w2,w3,w4,w5,w6,w7⟩
     obtain rfl:t=k:=by omega
     have hnl:n=l.length:=by omega
     have hHe:H=hiF t l:=qnA hH (qg7 _ _ _ _) (by omega) w7
     rw[hHe,qoN w2,qvL (show n-1<l.length by omega)] at hp
     simp at hp
    by_cases h0:n=0
    ·subst h0
     have:isub .i64 ((0:Nat):Int) 1=-1:=by decide
     rw[this,qrs hF hH (by omega)]
     simp only[qvK]
     rw[if_pos (by simp)]
     exact hfin (.inl rfl)
    ·rw[qco (by omega) (by omega),qix hF hH (by omega) (by omega)]
     simp only[qvK]
     cases hp:plc 1 H (n-1) with
     | none =>
      right
      refine ⟨hnoform h0 hp,?_⟩
      simp only
      rw[if_pos (by simp),decide_eq_true (show (0:Int)<(n:Int) by omega)]
      rfl
     | some q =>
      simp only
      rw[if_neg (by simp)]
      exact hfin (.inr ⟨q,hp⟩)
   ·right
    refine ⟨?_,by rw[if_pos (by rw[bne_iff_ne];omega)];rfl⟩
    rintro ⟨l,k,e1,hk,e2,e3,w1,w2,w3,w4,_⟩
    obtain rfl:t=k:=by omega
    have hnl:n=l.length:=by omega
    rw[qee] at w4
    rw[hnl] at hl1
    omega
  ·right
   refine ⟨?_,by rw[if_pos (by simpa using hw1)];rfl⟩
   rintro ⟨l,k,e1,hk,e2,e3,_⟩
   obtain rfl:t=k:=by omega
   have hnl:n=l.length:=by omega
   rw[← hnl] at e3
   exact hw1 e3
 ·right
  refine ⟨fun ⟨l,h⟩=>hr (qs1 h),?_⟩
  rw[if_pos (by unfold Rg at hr;simp only[qw3,decide_eq_true_eq];omega),if_neg hr]
theorem qnr {l:List Nat}{i:Nat}(hi:i<l.length):(lc l)[i]?=some ((l[i]:Nat):Int):=by simp[lc,hi]
def rdn (w:Nat)(L:qyo):qyo→Nat→Nat→Nat→List Nat
 | [],_,_,_=>[]
 | _::_,_,0,_=>[]
 | b::H,h,m+1,k=>if b=0 then rdn w L H (h+1) (m+1) k else (h*2^w+bv ((L.drop (k*w)).take w))::rdn w L H h m (k+1)
theorem qvA {w:Nat}{L X:qyo}{h k:Nat}:rdn w L X h 0 k=[]:=by cases X <;> rfl
theorem qoX {w:Nat}{L X:qyo}{m k:Nat}:∀ {c h:Nat},rdn w L (qvU c 0++X) h (m+1) k=rdn w L X (h+c) (m+1) k
 | 0,h=>by simp
 | c+1,h=>by
  rw[qwG,qwQ,rdn,if_pos rfl,qoX,show h+1+c=h+(c+1) from by omega]
theorem qrD {w last:Nat}{L:qyo}:∀ {l:List Nat} {a k:Nat},(∀ x∈l,a≤x/2^w)→(∀ j x,l[j]?=some x→∀ y∈l.drop (j+1),x/2^w≤y/2^w) →
  (∀ i x,l[i]?=some x→(L.drop ((k+i)*w)).take w=nb x w)→rdn w L (hp w last a l) a l.length k=l
 | [],a,k,_,_,_=>qvA
 | x::l,a,k,h,hs,hL=>by
  have hx:=h x qwf
  have h0:=hs 0 x rfl
  rw[qwV,qv5] at h0
  have h1:=hL 0 x rfl
  rw[Nat.add_zero] at h1
  have ih:=qrD (w:=w) (last:=last) (L:=L) (l:=l) (a:=x/2^w) (k:=k+1) h0 (fun j y hj=>by
    have:=hs (j+1) y (by simpa using hj)
    rwa [qwV] at this) (fun i y hy=>by
    have:=hL (i+1) y (by simpa using hy)
    rwa [show k+1+i=k+(i+1) from by omega])
  have hdm:=qx1 x (2^w)
  rw[hp,qwa,qoX,rdn,if_neg (by decide),h1,qh6,show a+(x/2^w-a)=x/2^w from by omega,qxg,hdm,ih]
theorem qif {l:qyo}{t:Int}:(∃ (ns:List Nat) (k:Nat),l=lc ns∧t=k∧k≤1048576∧ns.length≤300∧Up k 0 ns∧Fits k ns∧fw l t=fo8 k ns)∨(∃ e:Int,e≠0∧fw l t=fz8 e∧¬ ∃ (ns:List Nat) (k:Nat),l=lc ns∧t=k∧k≤1048576∧ns.length≤300∧Up k 0 ns∧Fits k ns):=by
 by_cases h:fkc l t=0
 ·obtain ⟨ns,k,rfl,hk,rfl,hm,hu⟩:=qg3.1 h
  have hf2:=(qoo hk hm hu).2
  by_cases hf:Fits k ns
  ·left;exact ⟨ns,k,rfl,rfl,hk,hm,hu,hf,by rw[hf2,if_pos hf]⟩
  ·right
   refine ⟨8,by decide,by rw[hf2,if_neg hf],?_⟩
   rintro ⟨ns',k',e1,e2,_,_,_,f⟩
   obtain rfl:k=k':=by omega
   have:=congrArg nl e1
   rw[qmq,qmq] at this
   rw[← this] at f
   exact hf f
 ·right
  refine ⟨fkc l t,h,qqQ h,?_⟩
  rintro ⟨ns',k',e1,e2,h1,h2,h3,f⟩
  exact h (qg3.2 ⟨ns',k',e2,h1,e1,h2,h3⟩)
theorem qmh {l:List Nat}{t:Nat}(hu:Up t 0 l):rdn (wd l.length t) (loF t l) (hiF t l) 0 l.length 0=l:=by
 unfold hiF
 refine qrD (fun x _=>qwn _) (qlx hu) (fun i x hx=>?_)
 rw[qwA]
 exact qnv hx
theorem qpM {l l':List Nat}{n t w lw hw:Int}{lb hb:qyo}(g:Good l n t w lw lb hw hb)(g':Good l' n t w lw lb hw hb):l=l':=by
 obtain ⟨k,rfl,hk,a1,a2,a3,a4,a5,a6,a7,a8,a9⟩:=g
 obtain ⟨k',e,hk',b1,b2,b3,b4,b5,b6,b7,b8,b9⟩:=g'
 obtain rfl:k=k':=by omega
 have hlen:l.length=l'.length:=by omega
 have e1:loF k l=loF k l':=qnA (qgB _ _) (qgB _ _) (by omega) (by rw[← a7,← b7])
 have e2:hiF k l=hiF k l':=qnA (qg7 _ _ _ _) (qg7 _ _ _ _) (by omega) (by rw[← a9,← b9])
 rw[← qmh a4,← qmh b4,e1,e2,hlen]
theorem qnf (n:Nat):qcY (n+200)=some true:=by kernel_rfl
theorem qlX {F:Nat}(hF:20000≤F):qcY F=some true:=by
 obtain ⟨n,rfl⟩:∃ n,F=n+200:=⟨F-200,by omega⟩
 exact qnf n
theorem qnd (n:Nat):qcV (n+200)=some true:=by kernel_rfl
theorem qlU {F:Nat}(hF:20000≤F):qcV F=some true:=by
 obtain ⟨n,rfl⟩:∃ n,F=n+200:=⟨F-200,by omega⟩
 exact qnd n
theorem qhT {t:Nat}:∀ {l:List Nat} {a:Nat},Up t a l→∀ {i j x y:Nat},i≤j→l[i]?=some x→l[j]?=some y→x≤y
 | [],_,_,i,j,x,y,_,h,_=>by simp at h
 | n::l,a,h,0,0,x,y,_,hx,hy=>by simp at hx hy;omega
 | n::l,a,h,0,j+1,x,y,_,hx,hy=>by
  simp at hx hy
  have:=(qpq h.2.2 y (qvO hy)).1
  omega
 | n::l,a,h,i+1,0,x,y,hij,_,_=>by omega
 | n::l,a,h,i+1,j+1,x,y,hij,hx,hy=>qhT h.2.2 (i:=i) (j:=j) (by omega) (by simpa using hx) (by simpa using hy)
def At (l:List Nat)(v:Int)(c:Nat):Prop:=c≤l.length∧(∀ (i x:Nat),i<c→l[i]?=some x→(x:Int)<v)∧(∀ (i x:Nat),c≤i→l[i]?=some x→v≤(x:Int))
theorem qvv {a b:Nat}(h:a+b<9223372036854775808):iconv .i64 (ishr .u64 (iconv .u64 (iadd .i64 (a:Int) (b:Int))) 1)=(((a+b)/2:Nat):Int):=by
 have h1:=qil (n:=a+b) (k:=1) (by omega)
 rw[show ((1:Nat):Int)=1 from rfl,Nat.pow_one] at h1
 rw[jr (by omega),yd (by omega),h1,qaQ (by omega)]
theorem qq6 {F:Nat}{x:Int}:kW F x=some false:=by simp[kW]
theorem qqM {F:Nat}{x y:Int}:vP F x y=some (decide (x<y)):=by
 simp[vP,jx,vq]
def gf (l:List Nat)(i:Int):Int×Int:=match (if 0≤i then l[i.toNat]? else none) with | none=>(0,3) | some x=>((x:Int),0)
structure Bd (lw:Int) (lb:qyo) (hw:Int) (hb:qyo):Prop where
 ul:U8s lb
 uh:U8s hb
 il:I64 lw
 ih:I64 hw
 ll:lb.length≤9223372036854775807
 lh:hb.length≤9223372036854775807
theorem qis {F:Nat}{n:Int}{t:Int}{w:Int}{lw:Int}{hw:Int}{lb:qyo}{hb:qyo}{l:List Nat}(hF:20000≤F)(b:Bd lw lb hw hb)(g:Good l n t w lw lb hw hb):kq F n t w lw lb hw hb=some (lc l,0):=by
 rcases qfL (F:=F) (n:=n) (t:=t) (w:=w) hF b.ul b.uh b.il b.ih b.ll b.lh with ⟨k,g',h⟩ | ⟨h,_⟩
 ·rw[h,qpM g' g]
 ·exact absurd ⟨l,g⟩ h
theorem qqN {F:Nat}{n:Int}{t:Int}{w:Int}{lw:Int}{hw:Int}{lb:qyo}{hb:qyo}(hF:20000≤F)(b:Bd lw lb hw hb)(g:¬ ∃ l,Good l n t w lw lb hw hb):kq F n t w lw lb hw hb=some ([],if Rg n t then 1 else 3):=by
 rcases qfL (F:=F) (n:=n) (t:=t) (w:=w) hF b.ul b.uh b.il b.ih b.ll b.lh with ⟨k,g',h⟩ | ⟨_,h⟩
 ·exact absurd ⟨k,g'⟩ g
 ·exact h
theorem qqA {F:Nat}{n:Int}{t:Int}{w:Int}{lw:Int}{hw:Int}{lb:qyo}{hb:qyo}{l:List Nat}(hF:20000≤F)(b:Bd lw lb hw hb)(g:Good l n t w lw lb hw hb):qbZ F n t w lw lb hw hb=some 0:=by
 unfold qbZ;rw[qis hF b g];rfl
theorem qqT {F:Nat}{n:Int}{t:Int}{w:Int}{lw:Int}{hw:Int}{lb:qyo}{hb:qyo}{l:List Nat}(hF:20000≤F)(b:Bd lw lb hw hb)(g:Good l n t w lw lb hw hb){i:Int}:qcG F n t w lw lb hw hb i=some (gf l i):=by
 unfold qcG
 rw[qqA hF b g]
 simp only[qvK]
 rw[if_pos (by rfl)]
 obtain ⟨k,rfl,hk,rfl,rfl,w1,w2,w3,rfl,rfl,rfl,rfl⟩:=g
 unfold gf qc7
 by_cases hi:0≤i∧i<(l.length:Int)
 ·obtain ⟨i,rfl⟩:=qvS hi.1
  have hx:l[i]?=some l[i]:=qvL (by omega)
  rw[if_neg (by simp;omega),if_pos hi.1,qvP,hx]
  unfold qc6
  rw[if_neg (by simp),qqJ hF hk w1 w2 w3 hx]
  rfl
 ·rw[if_pos (by simp;omega)]
  have:(if 0≤i then l[i.toNat]? else none)=none:=by
   by_cases h0:0≤i
   ·rw[if_pos h0,qv6 (by omega)]
   ·rw[if_neg h0]
  rw[this];rfl
theorem qov {l:List Nat}{k:Nat}(hk:k≤1048576)(hm:l.length≤300)(hu:Up k 0 l)(hf:Fits k l):Good l (l.length:Int) (k:Int) ((wd l.length k:Nat):Int) ((loF k l).length:Int) (pk (loF k l)) ((hiF k l).length:Int) (pk (hiF k l)) :=
 ⟨k,rfl,hk,rfl,rfl,hm,hu,hf,rfl,rfl,rfl,rfl⟩
theorem qt7 {l:List Nat}{k:Nat}(hu:Up k 0 l)(hf:Fits k l):Bd ((loF k l).length:Int) (pk (loF k l)) ((hiF k l).length:Int) (pk (hiF k l)):=by
 have hL:(loF k l).length≤8192:=by rw[qee];exact hf.1
 have hH:(hiF k l).length≤8192:=by rw[qfq hu];exact hf.2
 exact ⟨qdY (qgB _ _),qdY (qg7 _ _ _ _),⟨by omega,by omega⟩,⟨by omega,by omega⟩,qhP hL,qhP hH⟩
theorem qqx {F:Nat}(hF:2000000≤F){g:List (qyo)}{N B least k m:Int}{b:qyo}(hp:pkE g B least k=0) :
  jS F g N B least k m b=some (if (fw (pkA g B least k.toNat g.length).2.2 m).2.2.2.2.2.2.2≠0 then (0,0,0,0,0,[],0,0,0,0,[],0,[],(fw (pkA g B least k.toNat g.length).2.2 m).2.2.2.2.2.2.2) else
   (N,B,least,k,m,b,(fw (pkA g B least k.toNat g.length).2.2 m).1,(fw (pkA g B least k.toNat g.length).2.2 m).2.1,(fw (pkA g B least k.toNat g.length).2.2 m).2.2.1,(fw (pkA g B least k.toNat g.length).2.2 m).2.2.2.1,(fw (pkA g B least k.toNat g.length).2.2 m).2.2.2.2.1,(fw (pkA g B least k.toNat g.length).2.2 m).2.2.2.2.2.1,(fw (pkA g B least k.toNat g.length).2.2 m).2.2.2.2.2.2.1,0)):=by
 unfold jS
 rw[qiz hF]
 simp only[qvK]
 have ht:ptl g B least k=((pkA g B least k.toNat g.length).2.1,(pkA g B least k.toNat g.length).2.2,0):=by unfold ptl;rw[if_neg (fun h=>h hp)]
 rw[ht]
 simp only
 rw[if_neg (by decide),qjU (by omega)]
 simp only[qvK]
 by_cases h:(fw (pkA g B least k.toNat g.length).2.2 m).2.2.2.2.2.2.2=0
 ·rw[if_neg (by simp[h]),if_neg (fun hh=>hh h)]
 ·rw[if_pos (by simpa using h),if_pos h]
theorem qiW {g:List (qyo)}{B least:Int}{k:Nat}:∀ n:Nat,(pkA g B least k n).2.2=(qwm n).map fun i=>((pkA g B least k i).1.length:Int)
 | 0=>rfl
 | n+1=>by
  rw[qx2,qw6,← qiW (g:=g) (B:=B) (least:=least) (k:=k) n]
  rfl
def dpt (g:List (qyo))(B least:Int)(k:Nat):Nat→Nat→Nat
 | 0,_=>0
 | f+1,i=>1+if (pkN g B least k i).1=0 then 0 else dpt g B least k f (i-(pkN g B least k i).1)
theorem quZ {g:List (qyo)}{B least:Int}{k i:Nat}:(pkN g B least k i).1≤i:=by
 have:=(qf7 (g:=g) (B:=B) (least:=least) (k:=k) (i:=i)).1
 omega
theorem qu7 {g:List (qyo)}(hg:Gr g){B least:Int}{k:Nat}(hh:hcE B least (k:Int)=0)(hl:(pkA g B least k g.length).1.length≤8192){i:Nat}(hi:i<g.length) :
  ∃ p q:Nat,p≤(pkA g B least k g.length).1.length∧pkO (pkA g B least k g.length).1 B i (pkA g B least k i).1.length=some (((pkN g B least k i).1:Int),p) ∧
   rdl (pkA g B least k g.length).1 p (i:Int) (pkF g i (pkN g B least k i).1) ((pkN g B least k i).1:Int) least k=some (g.getD i [],q):=by
 obtain ⟨k1,k2,k',hk,k3,k4⟩:=qcN hh
 have hkk:k=k':=by omega
 subst hkk
 obtain ⟨hr,_⟩:=qf7 (g:=g) (B:=B) (least:=least) (k:=k) (i:=i)
 have hgl:=hg.1
 obtain ⟨R,hR⟩:=qmv (g:=g) (B:=B) (least:=least) (k:=k) hi
 have hA:(pkA g B least k (i+1)).1.length=(pkA g B least k i).1.length+(pkH B (pkN g B least k i).1).length+(enc (i:Int) (g.getD i []) (pkF g i (pkN g B least k i).1) ((pkN g B least k i).1:Int) least k).length:=by
  have:=(qf7 (g:=g) (B:=B) (least:=least) (k:=k) (i:=i)).2
  rw[pkA,this]
  unfold pkW
  simp only[qvN];omega
 have hM:=qgH (g:=g) (B:=B) (least:=least) (k:=k) (show i+1≤g.length from hi)
 refine ⟨(pkA g B least k i).1.length+(pkH B (pkN g B least k i).1).length,(pkA g B least k i).1.length+(pkH B (pkN g B least k i).1).length+(enc (i:Int) (g.getD i []) (pkF g i (pkN g B least k i).1) ((pkN g B least k i).1:Int) least k).length,by omega,?_,?_⟩
 ·unfold pkO pkH
  by_cases hB:B=0
  ·have:(pkN g B least k i).1=0:=by rw[hB] at hr ⊢;simp at hr;exact hr
   rw[if_pos hB,this,if_neg (by omega)]
   simp
  ·rw[if_neg hB,if_pos (by omega)]
   rw[hR]
   unfold pkH
   rw[if_pos (by omega)]
   simp only[qvM]
   exact qfx (by omega) (by omega) _ _
 ·have hE:(enc (i:Int) (g.getD i []) (pkF g i (pkN g B least k i).1) ((pkN g B least k i).1:Int) least k).length≤8192:=by omega
  have hD:=qlj (k:=k) k3 k4 (node:=(i:Int)) (back:=((pkN g B least k i).1:Int)) (least:=least) (x:=g.getD i []) (fr:=pkF g i (pkN g B least k i).1) (by unfold Nd;omega) k2 (qih hg i) (fun _=>qhO hg _ _) ((pkA g B least k i).1++pkH B (pkN g B least k i).1) R hE
  rw[hR]
  simp only[qvM,qvN] at hD ⊢
  exact hD
theorem quK {l:List Nat}{i:Nat}(h:i<l.length):gf l (i:Int)=(((l[i]:Nat):Int),0):=by
 unfold gf;rw[if_pos (by omega),qvP,qvL h]
abbrev S14:=Int×Int×Int×Int×Int×qyo×Int×Int×Int×Int×qyo×Int×qyo×Int
def shz (e:Int):S14:=(0,0,0,0,0,[],0,0,0,0,[],0,[],e)
def fwp (g:List (qyo))(B least k:Int):F8:=fw (pkA g B least k.toNat g.length).2.2 ((pkA g B least k.toNat g.length).1.length:Int)
def shE (g:List (qyo))(B least k:Int):Int:=if pkE g B least k≠0 then pkE g B least k else (fwp g B least k).2.2.2.2.2.2.2
def shb (g:List (qyo))(B least k:Int):S14 :=
 if shE g B least k≠0 then shz (shE g B least k) else ((g.length:Int),B,least,k,((pkA g B least k.toNat g.length).1.length:Int),pk (pkA g B least k.toNat g.length).1,(fwp g B least k).1,(fwp g B least k).2.1,(fwp g B least k).2.2.1,(fwp g B least k).2.2.2.1,(fwp g B least k).2.2.2.2.1,(fwp g B least k).2.2.2.2.2.1,(fwp g B least k).2.2.2.2.2.2.1,0)
theorem qln {g:List (qyo)}{B least k:Int}:shE g B least k=0↔pkE g B least k=0∧(fwp g B least k).2.2.2.2.2.2.2=0:=by
 unfold shE
 by_cases h:pkE g B least k=0
 ·rw[if_neg (by simp[h])];simp[h]
 ·rw[if_pos h];simp[h]
theorem qnJ {g:List (qyo)}{B least k:Int}(h:shE g B least k=0):shb g B least k=((g.length:Int),B,least,k,((pkA g B least k.toNat g.length).1.length:Int),pk (pkA g B least k.toNat g.length).1,(fwp g B least k).1,(fwp g B least k).2.1,(fwp g B least k).2.2.1,(fwp g B least k).2.2.2.1,(fwp g B least k).2.2.2.2.1,(fwp g B least k).2.2.2.2.2.1,(fwp g B least k).2.2.2.2.2.2.1,0):=by
 unfold shb;rw[if_neg (by simp[h])]
theorem qpb {g:List (qyo)}{B least k:Int}(h:shE g B least k≠0):shb g B least k=shz (shE g B least k):=by
 unfold shb;rw[if_pos h]
def blt (N B least k m:Int)(b:qyo)(f:F8):S14:=if f.2.2.2.2.2.2.2≠0 then shz f.2.2.2.2.2.2.2 else (N,B,least,k,m,b,f.1,f.2.1,f.2.2.1,f.2.2.2.1,f.2.2.2.2.1,f.2.2.2.2.2.1,f.2.2.2.2.2.2.1,0)
theorem qjL {F:Nat}(hF:2000000≤F){g:List (qyo)}{N B least k m:Int}{b:qyo}(hp:pkE g B least k=0) :
  jS F g N B least k m b=some (blt N B least k m b (fw (pkA g B least k.toNat g.length).2.2 m)):=qqx hF hp
theorem qiQ {F:Nat}(hF:2000000≤F){g:List (qyo)}{B least k:Int}:qbj F g B least k=some (shb g B least k):=by
 unfold qbj
 rw[qfu hF]
 simp only[qvK]
 by_cases hp:pkE g B least k=0
 ·have e:pwr g B least k=((g.length:Int),B,least,k,((pkA g B least k.toNat g.length).1.length:Int),pk (pkA g B least k.toNat g.length).1,0):=by
   unfold pwr;rw[if_neg (by simp[hp])]
  rw[e]
  simp only
  rw[if_neg (by decide),qjL hF hp]
  show some (blt _ _ _ _ _ _ (fwp g B least k))=_
  unfold blt
  by_cases h:(fwp g B least k).2.2.2.2.2.2.2=0
  ·rw[if_neg (by simp[h]),qnJ (qln.2 ⟨hp,h⟩)]
  ·have hs:shE g B least k=(fwp g B least k).2.2.2.2.2.2.2:=by unfold shE;rw[if_neg (by simp[hp])]
   rw[if_pos h,qpb (by rw[hs];exact h),hs]
 ·have e:pwr g B least k=(0,0,0,0,0,[],pkE g B least k):=by
   unfold pwr;rw[if_pos hp]
  have hs:shE g B least k=pkE g B least k:=by unfold shE;rw[if_pos hp]
  rw[e]
  simp only
  rw[if_pos (by simpa using hp),qpb (by rw[hs];exact hp),hs]
  rfl
theorem qpE (F:Nat)(g:List (qyo))(N B least k m:Int)(b:qyo):qdv F g N B least k m b=jS F g N B least k m b:=rfl
theorem qjT {g:List (qyo)}{B least k:Int}:(∃ (ns:List Nat) (kk:Nat),(pkA g B least k.toNat g.length).2.2=lc ns∧((pkA g B least k.toNat g.length).1.length:Int)=kk∧kk≤1048576∧ns.length≤300∧Up kk 0 ns∧Fits kk ns∧fwp g B least k=fo8 kk ns)∨(∃ e:Int,e≠0∧fwp g B least k=fz8 e):=by
 rcases qif (l:=(pkA g B least k.toNat g.length).2.2) (t:=((pkA g B least k.toNat g.length).1.length:Int)) with ⟨ns,kk,h1,h2,h3,h4,h5,h6,h7⟩ | ⟨e,h1,h2,_⟩
 ·exact Or.inl ⟨ns,kk,h1,h2,h3,h4,h5,h6,h7⟩
 ·exact Or.inr ⟨e,h1,h2⟩
theorem qop {g:List (qyo)}{B least k:Int}:(fwp g B least k).2.2.2.2.1.length≤1100∧(fwp g B least k).2.2.2.2.2.2.1.length≤1100:=by
 rcases qjT (g:=g) (B:=B) (least:=least) (k:=k) with ⟨ns,kk,h1,h2,h3,h4,h5,h6,h7⟩ | ⟨e,h1,h2⟩
 ·rw[h7]
  have e1:=qee kk ns
  have e2:=qfq h5
  unfold Fits at h6
  unfold fo8
  simp only[qcP]
  omega
 ·rw[h2];unfold fz8;simp
theorem qp3 {F:Nat}{a1 a2 a3 a4 a6 n t w lw hw:Int}{a5 a7 xl xh:qyo}(h1:a5.length<F)(h2:a7.length<F)(h3:a5.length≤1000000)(h4:a7.length≤1000000) :
  qdA F a1 a2 a3 a4 a5 a6 a7 n t w lw xl hw xh=some (decide ((a1,a2,a3,a4,a5,a6,a7)=(n,t,w,lw,xl,hw,xh))):=by
 unfold qdA qbG qbH
 by_cases h:a1=n∧a2=t∧a3=w∧a4=lw∧a6=hw
 ·obtain ⟨rfl,rfl,rfl,rfl,rfl⟩:=h
  rw[if_pos (by simp),peqb h1 h3]
  simp only[qvK]
  by_cases h5:a5=xl
  ·subst h5
   rw[if_pos (by simp),peqb h2 h4]
   simp
  ·rw[if_neg (by simpa using h5)]
   simp[h5]
 ·rw[if_neg (by simp;intros;simp_all),if_neg (by decide)]
  congr 1
  symm
  rw[decide_eq_false_iff_not]
  intro hc
  simp only[qxa] at hc
  exact h ⟨hc.1,hc.2.1,hc.2.2.1,hc.2.2.2.1,hc.2.2.2.2.2.1⟩
instance f8Dec:DecidableEq F8:=fun a b=>decidable_of_iff (a.1=b.1∧a.2=b.2) ⟨fun h=>Prod.ext h.1 h.2,fun h=>by rw[h];exact ⟨rfl,rfl⟩⟩
def shc (N B least k m:Int)(b:qyo)(n t w lw:Int)(xl:qyo)(hw:Int)(xh:qyo):Int :=
 if (prd N B least k m b).2≠0 then (prd N B least k m b).2 else if fwp (prd N B least k m b).1 B least k=(n,t,w,lw,xl,hw,xh,0) then 0 else 4
theorem qd0 {F:Nat}(hF:2000000≤F){N B least k m n t w lw hw:Int}{b xl xh:qyo}(hb:U8s b)(hm:I64 m)(lb:b.length≤9223372036854775807) :
  jR F N B least k m b n t w lw xl hw xh=some (shc N B least k m b n t w lw xl hw xh):=by
 unfold jR shc
 rw[qgI hF hb hm lb]
 simp only[qvK]
 by_cases h:(prd N B least k m b).2=0
 ·obtain ⟨g,h1,h2,h3,h4,h5⟩:=qrv hb h
  rw[h1]
  simp only
  rw[if_neg (by decide),if_neg (by simp),qpE,qjL hF h2]
  simp only[qvK]
  subst h4
  have ef:fw (pkA g B least k.toNat g.length).2.2 ((pkA g B least k.toNat g.length).1.length:Int)=fwp g B least k:=rfl
  rw[ef]
  by_cases he:(fwp g B least k).2.2.2.2.2.2.2=0
  ·have e2:∀ m',blt N B least k m' b (fwp g B least k)=(N,B,least,k,m',b,(fwp g B least k).1,(fwp g B least k).2.1,(fwp g B least k).2.2.1,(fwp g B least k).2.2.2.1,(fwp g B least k).2.2.2.2.1,(fwp g B least k).2.2.2.2.2.1,(fwp g B least k).2.2.2.2.2.2.1,0):=by
    intro m';unfold blt;rw[if_neg (by simp[he])]
   rw[e2]
   simp only
   rw[if_neg (by decide)]
   obtain ⟨l1,l2⟩:=qop (g:=g) (B:=B) (least:=least) (k:=k)
   rw[qp3 (by omega) (by omega) (by omega) (by omega)]
   simp only[qvK]
   unfold vX
   by_cases hs:fwp g B least k=(n,t,w,lw,xl,hw,xh,0)
   ·rw[if_pos hs,hs];simp
   ·rw[if_neg hs,if_pos]
    simp only[Bool.not_eq_true',decide_eq_false_iff_not]
    intro hc
    apply hs
    simp only[qxa] at hc
    obtain ⟨c1,c2,c3,c4,c5,c6,c7⟩:=hc
    rw[← c1,← c2,← c3,← c4,← c5,← c6,← c7,← he]
  ·have e2:∀ m',blt N B least k m' b (fwp g B least k)=shz (fwp g B least k).2.2.2.2.2.2.2:=by
    intro m';unfold blt;rw[if_pos he]
   rw[e2,if_pos (by simpa[shz] using he)]
   unfold vX
   rw[if_pos (by rfl),if_neg]
   intro hc
   rw[hc] at he
   exact he rfl
 ·rw[if_pos (by simpa using h),if_pos h]
theorem qnK {g:List (qyo)}{B least k n t w lw hw:Int}{xl xh:qyo}(h:pkE g B least k=0)(hs:fwp g B least k=(n,t,w,lw,xl,hw,xh,0)) :
  shc (g.length:Int) B least k ((pkA g B least k.toNat g.length).1.length:Int) (pk (pkA g B least k.toNat g.length).1) n t w lw xl hw xh=0:=by
 unfold shc
 rw[qnC h]
 simp only
 rw[if_neg (by decide),if_pos hs]
theorem qjS {g:List (qyo)}{B least:Int}{k:Nat}(hp:pkE g B least (k:Int)=0){n t w lw hw:Int}{xl xh:qyo}(hf:fwp g B least (k:Int)=(n,t,w,lw,xl,hw,xh,0)) :
  ∀ (f F i rd:Nat),2000000+f≤F→i<f→i<g.length→rd+f≤1000000 →
  kI F (g.length:Int) B least (k:Int) ((pkA g B least k g.length).1.length:Int) (pk (pkA g B least k g.length).1) n t w lw xl hw xh (rd:Int) (i:Int) =
   some (g.getD i [],(g.length:Int),B,least,(k:Int),((pkA g B least k g.length).1.length:Int),n,t,w,lw,hw,((rd+dpt g B least k f i:Nat):Int))
 | 0,_,_,_,_,h,_,_=>by omega
 | f+1,F,i,rd,hF,hi,hg,hr=>by
  obtain ⟨F,rfl⟩:∃ F',F=F'+1:=⟨F-1,by omega⟩
  obtain ⟨p1,p2,p3⟩:=qcr hp
  rw[qvP] at p3
  have hG:=qdk.1 p1
  have hgl:=hG.1
  obtain ⟨k1,k2,k',hk,k3,k4⟩:=qcN p2
  have hkk:k=k':=by omega
  subst hkk
  obtain ⟨p,q,q1,q2,q3⟩:=qu7 hG p2 p3 hg
  have hri:=quZ (g:=g) (B:=B) (least:=least) (k:=k) (i:=i)
  have hbit:=qdC (g:=g) (B:=B) (least:=least) (k:=k) g.length
  have hmono:=qgH (g:=g) (B:=B) (least:=least) (k:=k) (show i≤g.length by omega)
  have hget:qcG F n t w lw xl hw xh (i:Int)=some (((pkA g B least k i).1.length:Int),0):=by
   rcases qjT (g:=g) (B:=B) (least:=least) (k:=(k:Int)) with ⟨ns,kk,h1,h2,h3,h4,h5,h6,h7⟩ | ⟨e,h1,h2⟩
   ·rw[hf] at h7
    unfold fo8 at h7
    simp only[qxa] at h7
    obtain ⟨rfl,rfl,rfl,rfl,rfl,rfl,rfl,-⟩:=h7
    rw[qvP,qiW] at h1
    have hlen:ns.length=g.length:=by
     have:=congrArg qxF h1
     rw[qcp] at this
     simpa using this.symm
    rw[qqT (by omega) (qt7 h5 h6) (qov h3 h4 h5 h6),quK (show i<ns.length by omega)]
    have h8:=qnr (l:=ns) (i:=i) (by omega)
    rw[← h1] at h8
    simp only[qwK,qxt hg,qwo,qvY] at h8
    rw[← h8]
   ·rw[hf] at h2
    unfold fz8 at h2
    simp only[qxa] at h2
    exact absurd h2.2.2.2.2.2.2.2.symm h1
  unfold kI
  simp only
  rw[hget]
  simp only[qvK]
  rw[qoP (by omega) hbit p3 k1 (by omega) (by omega),q2]
  simp only[qvK]
  have hfrom:∀ fr:qyo,fr=pkF g i (pkN g B least k i).1→vz F ((pkA g B least k g.length).1.length:Int) (pk (pkA g B least k g.length).1) (p:Int) (i:Int) fr ((pkN g B least k i).1:Int) least (k:Int)=some (g.getD i [],(q:Int),0):=by
   rintro fr rfl
   rw[qiP (by omega) k3 k4 hbit p3 (by unfold Nd;omega) q1 (fun _=>qhO hG _ _) k2,q3]
  by_cases h0:(pkN g B least k i).1=0
  ·rw[if_neg (by simp[h0])]
   unfold ky
   simp only
   rw[hfrom [] (by unfold pkF;rw[h0,if_neg (by omega)])]
   simp only[qvK]
   rw[qC (by omega)]
   unfold dpt
   rw[if_pos h0]
  ·rw[if_pos (by simp;omega),qC (by omega)]
   have e1:isub .i64 (i:Int) ((pkN g B least k i).1:Int)=((i-(pkN g B least k i).1:Nat):Int):=by
    rw[zB (by omega) (by omega)];omega
   rw[e1,qjS hp hf f F (i-(pkN g B least k i).1) (rd+1) (by omega) (by omega) (by omega) (by omega)]
   simp only[qvK]
   unfold ky
   simp only
   rw[hfrom _ (by unfold pkF;rw[if_pos (by omega)])]
   simp only[qvK]
   have e2:rd+dpt g B least k (f+1) i=rd+1+dpt g B least k f (i-(pkN g B least k i).1):=by
    rw[dpt,if_neg h0];omega
   rw[e2]
structure Shf (g:List (qyo)) (B least k n t w lw:Int) (xl:qyo) (hw:Int) (xh:qyo):Prop where
 pe:pkE g B least k=0
 fe:fwp g B least k=(n,t,w,lw,xl,hw,xh,0)
theorem qpc {g:List (qyo)}{B least k:Int}(h:shE g B least k=0):Shf g B least k (fwp g B least k).1 (fwp g B least k).2.1 (fwp g B least k).2.2.1 (fwp g B least k).2.2.2.1 (fwp g B least k).2.2.2.2.1 (fwp g B least k).2.2.2.2.2.1 (fwp g B least k).2.2.2.2.2.2.1:=by
 obtain ⟨h1,h2⟩:=qln.1 h
 refine ⟨h1,?_⟩
 rw[← h2]
theorem qr4 {g:List (qyo)}{B least k n t w lw hw:Int}{xl xh:qyo}(s:Shf g B least k n t w lw xl hw xh) :
  U8s (pk (pkA g B least k.toNat g.length).1)∧I64 ((pkA g B least k.toNat g.length).1.length:Int)∧(pk (pkA g B least k.toNat g.length).1).length≤9223372036854775807:=by
 obtain ⟨p1,p2,p3⟩:=qcr s.pe
 refine ⟨qdY (qdC _),⟨by omega,by omega⟩,?_⟩
 rw[qcP];omega
def rdn' (g:List (qyo))(B least k:Int)(i:Nat):Nat:=dpt g B least k.toNat 101 i
theorem qk9 {F:Nat}(hF:2000200≤F){g:List (qyo)}{B least k n t w lw hw:Int}{xl xh:qyo}(s:Shf g B least k n t w lw xl hw xh){i:Nat}(hi:i<g.length) :
  ke F (g.length:Int) B least k ((pkA g B least k.toNat g.length).1.length:Int) (pk (pkA g B least k.toNat g.length).1) n t w lw xl hw xh (i:Int)=some (g.getD i [],(rdn' g B least k i:Int),0):=by
 obtain ⟨p1,p2,p3⟩:=qcr s.pe
 have hgl:=(qdk.1 p1).1
 obtain ⟨k1,k2,k',rfl,k3,k4⟩:=qcN p2
 obtain ⟨b1,b2,b3⟩:=qr4 s
 unfold ke
 rw[qd0 (by omega) b1 b2 b3,qnK s.pe s.fe]
 simp only[qvK]
 rw[if_pos (by rfl)]
 unfold vf
 rw[if_neg (by simp;omega)]
 unfold ve
 rw[if_neg (by decide)]
 have:=qjS s.pe s.fe 101 F i 0 (by omega) (by omega) hi (by omega)
 rw[qvP] at *
 rw[show ((0:Nat):Int)=0 from rfl] at this
 rw[this]
 simp only[qvK]
 unfold rdn'
 rw[qvP,qwA]
theorem qmm {F:Nat}(hF:2000200≤F){g:List (qyo)}{B least k n t w lw hw:Int}{xl xh:qyo}(s:Shf g B least k n t w lw xl hw xh){i:Int}(hi:i<0∨(g.length:Int)≤i) :
  ke F (g.length:Int) B least k ((pkA g B least k.toNat g.length).1.length:Int) (pk (pkA g B least k.toNat g.length).1) n t w lw xl hw xh i=some ([],0,3):=by
 obtain ⟨b1,b2,b3⟩:=qr4 s
 unfold ke
 rw[qd0 (by omega) b1 b2 b3,qnK s.pe s.fe]
 simp only[qvK]
 rw[if_pos (by rfl)]
 unfold vf
 rw[if_pos (by simpa using hi)]
 unfold ve
 rw[if_pos (by decide)]
theorem qrb {F:Nat}(hF:2000200≤F){N B least k m n t w lw hw:Int}{b xl xh:qyo}(hb:U8s b)(hm:I64 m)(lb:b.length≤9223372036854775807)(h:shc N B least k m b n t w lw xl hw xh≠0){i:Int} :
  ke F N B least k m b n t w lw xl hw xh i=some ([],0,shc N B least k m b n t w lw xl hw xh):=by
 unfold ke
 rw[qd0 (by omega) hb hm lb]
 simp only[qvK]
 rw[if_neg (by simpa using h)]
 unfold vf
 rw[if_neg (by decide)]
 unfold ve
 rw[if_pos (by simpa using h)]
theorem qvH {F:Nat}{l:List Nat}{v:Int}{c:Nat}:qY F (lc l) v (c:Int)=some ((c:Int),decide ((l[c]?).map (fun x:Nat=>(x:Int))=some v)):=by
 unfold qY
 rw[qcp]
 by_cases h:c<l.length
 ·rw[if_pos (by simpa using h),qG,qnr h,qvL h]
  simp only[qvK,qwo]
  by_cases h2:((l[c]:Nat):Int)=v
  ·rw[if_pos (by simpa using h2),decide_eq_true (by rw[h2])];rfl
  ·rw[if_neg (by simpa using h2),qq6]
   simp only[qvK]
   rw[if_neg (by decide),decide_eq_false (by simpa using h2)];rfl
 ·rw[if_neg (by simpa using h),qv6 (by omega)];rfl
theorem quD {F t:Nat}{l:List Nat}{v:Int}(hlm:l.length≤300)(hu:Up t 0 l):∀ (k i j:Nat),j-i<k→i≤j→j≤l.length→(∀ (a x:Nat),a<i→l[a]?=some x→(x:Int)<v)→(∀ (a x:Nat),j≤a→l[a]?=some x→v≤(x:Int)) →
  ∃ c,At l v c∧qz F (lc l) v k ((i:Int),(j:Int))=qY F (lc l) v (c:Int)
 | 0,_,_,_,_,_,_,_=>by omega
 | k+1,i,j,hk,hij,hj,h1,h2=>by
  have e:qz F (lc l) v (k+1) ((i:Int),(j:Int))=qV F (lc l) v (qz F (lc l) v k) (i:Int) (j:Int):=rfl
  rw[e]
  unfold qV
  by_cases hlt:i<j
  ·have hmid:(i+j)/2<l.length:=by omega
   rw[if_pos (by simpa using hlt),qvv (by omega)]
   simp only[lett]
   rw[qG,qnr hmid]
   simp only[qvK]
   rw[qqM]
   simp only[qvK]
   have hg:l[(i+j)/2]?=some l[(i+j)/2]:=qvL hmid
   by_cases hv:((l[(i+j)/2]:Nat):Int)<v
   ·rw[if_pos (by simpa using hv),qC (by omega)]
    refine quD hlm hu k _ _ (by omega) (by omega) hj (fun a x ha hx=>?_) h2
    have:=qhT hu (show a≤(i+j)/2 by omega) hx hg
    omega
   ·rw[if_neg (by simpa using hv)]
    refine quD hlm hu k _ _ (by omega) (by omega) (by omega) h1 (fun a x ha hx=>?_)
    have:=qhT hu ha hg hx
    omega
  ·obtain rfl:i=j:=by omega
   rw[if_neg (by simp)]
   exact ⟨i,⟨hj,h1,h2⟩,rfl⟩
theorem quE {F t:Nat}(hF:20000≤F){l:List Nat}{v:Int}(hlm:l.length≤300)(hu:Up t 0 l):∃ c:Int,qA F (lc l) v=some (c,decide (v∈lc l)):=by
 obtain ⟨c,⟨g1,g2,g3⟩,h5⟩:=quD (F:=F) (v:=v) hlm hu F 0 l.length (by omega) (qwn _) (qv3 _) (fun a x ha=>by omega) (fun a x ha hx=>by rw[qv6 (by omega)] at hx;simp at hx)
 refine ⟨(c:Int),?_⟩
 unfold qA
 rw[qcp]
 rw[show ((0:Nat):Int)=0 from rfl] at h5
 rw[h5,qvH]
 congr 2
 rw[decide_eq_decide]
 unfold lc
 constructor
 ·intro h
  rw[Option.map_eq_some_iff] at h
  obtain ⟨x,h1,h2⟩:=h
  rw[← h2]
  exact List.mem_map.2 ⟨x,qvO h1,rfl⟩
 ·intro h
  obtain ⟨x,h1,h2⟩:=List.mem_map.1 h
  obtain ⟨i,hi,h3⟩:=List.mem_iff_getElem.1 h1
  have h4:l[i]?=some x:=by rw[qvL hi,h3]
  have h6:c≤i:=by
   by_cases hc:c≤i
   ·exact hc
   ·have:=g2 i x (by omega) h4;omega
  have hcl:c<l.length:=by omega
  have h7:l[c]?=some l[c]:=qvL hcl
  have h8:=g3 c _ (qv3 _) h7
  have h9:=qhT hu h6 h7 h4
  rw[h7,qwo]
  congr 1
  omega
theorem quu {t:Nat}:∀ {l:qyo} {a:Int},0≤a→(∀ x∈l,a≤x∧x≤t)→l.Pairwise (·<·)→∃ ns,l=lc ns∧Up t a.toNat ns
 | [],a,_,_,_=>⟨[],rfl,trivial⟩
 | x::l,a,ha,h,hp=>by
  have h1:=h x (by simp)
  rw[qwM] at hp
  obtain ⟨ns,e,hu⟩:=quu (t:=t) (l:=l) (a:=x) (by omega) (fun y hy=>⟨Int.le_of_lt (hp.1 y hy),(h y (by simp[hy])).2⟩) hp.2
  refine ⟨x.toNat::ns,?_,by omega,by omega,hu⟩
  rw[e]
  show _=((x.toNat:Nat):Int)::lc ns
  rw[Int.toNat_of_nonneg (by omega)]
theorem quF {F:Nat}(hF:20000≤F){g:List (qyo)}(hg:Gr g){i:Nat}(hi:i<g.length){v:Int}:∃ c:Int,qA F (g.getD i []) v=some (c,decide (v∈g.getD i [])):=by
 have hm:g.getD i []∈g:=by
  rw[qwg,qvL hi];exact qwe hi
 have h1:=hg.2.1 _ hm
 have h2:=qii hg hm
 have h3:=hg.1
 obtain ⟨ns,e,hu⟩:=quu (t:=100) (l:=g.getD i []) (a:=0) (by omega) (fun x hx=>by have:=h1.2 x hx;omega) h1.1
 have hl:ns.length≤300:=by rw[← qcp,← e];omega
 rw[e]
 exact quE hF hl hu
theorem qml {F:Nat}(hF:2000200≤F){g:List (qyo)}{B least k n t w lw hw:Int}{xl xh:qyo}(s:Shf g B least k n t w lw xl hw xh){i:Nat}(hi:i<g.length){v:Int} :
  qbk F (g.length:Int) B least k ((pkA g B least k.toNat g.length).1.length:Int) (pk (pkA g B least k.toNat g.length).1) n t w lw xl hw xh (i:Int) v=some (if v<0∨(g.length:Int)≤v then (false,3) else (decide (v∈g.getD i []),0)):=by
 unfold qbk
 rw[qk9 hF s hi]
 simp only[qvK]
 rw[if_pos (by rfl)]
 unfold qa6 qa5
 by_cases hv:v<0∨(g.length:Int)≤v
 ·rw[if_pos (by simpa using hv),if_pos (by decide),if_pos hv]
 ·rw[if_neg (by simpa using hv),if_neg (by simp),if_neg hv]
  obtain ⟨c,hc⟩:=quF (F:=F) (by omega) (qdk.1 (qcr s.pe).1) hi (v:=v)
  simp only
  rw[hc]
  rfl
theorem qoT {F:Nat}{xs ys:qyo}(he:xs.length=ys.length)(hm:xs.length≤1000000):∀ (k i:Nat),xs.length<k+i→i≤xs.length→zS F xs ys k (i:Int)=some (decide (xs.drop i=ys.drop i))
 | 0,_,_,_=>by omega
 | k+1,i,h,hi=>by
  show yo F xs ys (zS F xs ys k) (i:Int)=_
  unfold yo
  by_cases hlt:i<xs.length
  ·have hlt':i<ys.length:=by omega
   rw[if_pos (by simp;omega),qG,qvL hlt,qG,qvL hlt']
   simp only[qvK]
   rw[qvV hlt,qvV hlt']
   by_cases hc:xs[i]=ys[i]
   ·rw[if_neg (by simp[hc]),qC (by omega),qoT he hm k (i+1) (by omega) (by omega)]
    congr 1
    rw[decide_eq_decide,qxi]
    exact ⟨fun h=>⟨hc,h⟩,fun h=>h.2⟩
   ·rw[if_pos (by simpa using hc),decide_eq_false (fun e=>hc (qyi e).1)]
  ·rw[if_neg (by simp;omega),qv1 (by omega),qv1 (by omega)]
   rfl
theorem qnD {F:Nat}{xs ys:qyo}(hF:xs.length<F)(hm:xs.length≤1000000):qL F xs ys=some (decide (xs=ys)):=by
 unfold qL
 by_cases h:xs.length=ys.length
 ·rw[if_neg (by simp[h])]
  have:=qoT (F:=F) h hm F 0 (by omega) (qwn _)
  rw[qv5,qv5] at this
  exact this
 ·rw[if_pos (by simp;omega),decide_eq_false (fun e=>h (by rw[e]))]
theorem qtm {k:Nat}{l:qyo}{p:Nat}{node back least:Int}{fr:qyo}{r:qyo×Nat}(h:rdl l p node fr back least k=some r):gkc r.1=0:=by
 unfold rdl at h
 rw[qwp] at h
 obtain ⟨r',h2,h⟩:=h
 split at h
 ·rename_i hc
  simp only[qvY] at h
  subst h
  exact hc.1
 ·simp at h
theorem qr1:shE pkSome 3 3 2=0:=by decide +kernel
theorem qr3:rdn' pkSome 3 3 2 1=2:=by decide +kernel
theorem qr2:fwp pkSome 3 3 2≠(0,0,0,0,[],0,[],0):=by decide +kernel
theorem qtw {F:Nat}(hF:2000200≤F):qbW F=some true:=by
 have hS:yD F=some pkSome:=rfl
 have hE:=qr1
 have s:=qpc hE
 obtain ⟨b1,b2,b3⟩:=qr4 s
 have l1:=qk9 hF s (i:=1) (by decide)
 have l2:=qml hF s (i:=4) (by decide) (v:=4)
 have l3:=qml hF s (i:=4) (by decide) (v:=5)
 have l4:=qmm hF s (i:=6) (by decide)
 have l5:=qd0 (F:=F) (by omega) (N:=(pkSome.length:Int)) (B:=3) (least:=3) (k:=2) (n:=(fwp pkSome 3 3 2).1) (t:=(fwp pkSome 3 3 2).2.1) (w:=(fwp pkSome 3 3 2).2.2.1) (lw:=(fwp pkSome 3 3 2).2.2.2.1) (xl:=(fwp pkSome 3 3 2).2.2.2.2.1) (hw:=(fwp pkSome 3 3 2).2.2.2.2.2.1) (xh:=(fwp pkSome 3 3 2).2.2.2.2.2.2.1) b1 b2 b3
 rw[qnK s.pe s.fe] at l5
 have l6:=qd0 (F:=F) (by omega) (N:=(pkSome.length:Int)) (B:=3) (least:=3) (k:=2) (n:=0) (t:=0) (w:=0) (lw:=0) (xl:=[]) (hw:=0) (xh:=[]) b1 b2 b3
 have e6:shc (pkSome.length:Int) 3 3 2 ((pkA pkSome 3 3 (2:Int).toNat pkSome.length).1.length:Int) (pk (pkA pkSome 3 3 (2:Int).toNat pkSome.length).1) 0 0 0 0 [] 0 []=4:=by
  unfold shc
  rw[qnC s.pe]
  simp only
  rw[if_neg (by decide),if_neg qr2]
 rw[e6] at l6
 rw[show ((1:Nat):Int)=1 from rfl,qr3] at l1
 rw[show ((4:Nat):Int)=4 from rfl] at l2 l3
 rw[if_neg (by decide),decide_eq_true (by decide)] at l2
 rw[if_neg (by decide),decide_eq_false (by decide)] at l3
 unfold qbW
 rw[hS]
 simp only[qvK]
 rw[qiQ (by omega),qnJ hE]
 simp only[qvK]
 rw[l1]
 simp only[qvK]
 rw[l2]
 simp only[qvK]
 rw[l3]
 simp only[qvK]
 rw[l4]
 simp only[qvK]
 rw[if_pos (by rfl),show pkSome.getD 1 []=[1,2,3,5] from rfl,qnD (by simp;omega) (by simp),decide_eq_true rfl]
 simp only[qvK]
 unfold qab
 simp only
 rw[if_pos (by rfl),l5]
 simp only[qvK]
 unfold qac
 simp only
 rw[if_pos (by rfl),l6]
 rfl
theorem qqD {l bs:qyo}(h:cpE l bs=0):(cp l bs true).length≤300:=by
 have h1:=(qkS l bs true).length_le
 have h2:=(qkR.1 h).1.1
 omega
theorem qsT {l bs:qyo}:(cpy l bs).1.length≤300:=by
 by_cases h:cpE l bs=0
 ·rw[qkU h];exact qqD h
 ·rw[qkT h];simp
theorem qtd {l bs rest:qyo}:(pjn l bs rest).1.length≤300:=by
 unfold pjn
 split
 ·simp
 ·split
  ·simp
  ·exact qoH
theorem qtt (a l:qyo):(rst a l).length≤l.length:=qxD _ _
theorem qlW {F:Nat}(hF:200000≤F):qbS F=some true:=by
 have s1:bls [1,2,5,7,9] [1,2,3,9]=([2,2],[3],0):=by decide
 have s2:cpy [1,2,5,7,9] [2,2]=([1,2,9],0):=by decide
 have s3:pjn [1,2,5,7,9] [2,2] [3]=([1,2,3,9],0):=qnz (by decide) (by decide) (by decide) (by decide) (by decide) (by decide)
 have s4:bls [4] []=([0],[],0):=by decide
 have s5:cpy [4] [2]=([],8):=by decide
 unfold qbS
 rw[qgZ hF,s1]
 simp only[qvK]
 rw[qgr hF,s2,qj4 hF,s3,qgZ hF,s4,qgr hF,s5]
 simp only[qvK]
 rw[qaR (by simp;omega) (by simp)]
 simp only[qvK,if_true]
 rw[qaR (by simp;omega) (by simp)]
 simp only[qvK]
 unfold j8
 rw[if_pos (by simp),qaR (by simp;omega) (by simp)]
 simp only[qvK]
 unfold j9
 rw[if_pos (by simp),qaR (by simp;omega) (by simp)]
 simp only[qvK]
 unfold qaa
 rw[if_pos (by simp),qaR (by simp;omega) (by simp)]
 rfl
theorem quO {l:qyo}{a:Int}:N64 (gg l a).1:=by
 unfold gg
 by_cases h:ggOf l a=0
 ·rw[if_neg (by simp[h])]
  obtain ⟨r1,r2,r3⟩:=qkY.1 h
  intro x hx
  have:=qmi r3 r2 (fun h=>by cases h) x hx
  omega
 ·rw[if_pos h];intro x hx;simp at hx
theorem quN {g:qyo}{a:Int}:(gb g a).1.length≤300:=by
 unfold gb
 split
 ·simp
 ·split
  ·split
   ·simp
   ·rename_i h _ _ r hr
    have:=qqu hr
    simp only;omega
  ·simp
theorem qsN {a l:qyo}:(bls a l).1.length≤300∧(bls a l).2.1.length≤300:=by
 unfold bls
 by_cases h:blE a l=0
 ·rw[if_neg (by simp[h])]
  obtain ⟨h1,h2⟩:=qqv.1 h
  have e1:=qhS a l
  have e2:=qtt a l
  simp only;omega
 ·rw[if_pos h];simp
theorem qvb {m p node back least k:Int}{b fr:qyo}:(sr m b p node fr back least k).1.length≤300:=by
 unfold sr
 split
 ·simp
 ·split
  ·simp
  ·rename_i r hr
   exact (zD.1 (qtm hr)).1
theorem qtj {g:List (qyo)}{B least k:Int}:(ptl g B least k).1.length≤100∧(ptl g B least k).2.1.length≤100:=by
 unfold ptl
 by_cases h:pkE g B least k=0
 ·rw[if_neg (by simp[h])]
  have h1:=(qdk.1 (qcr h).1).1
  have h2:=qiw (g:=g) (B:=B) (least:=least) (k:=k.toNat) g.length
  simp only;omega
 ·rw[if_pos h];simp
theorem qrI {m e:Int}{b:qyo}:(rkbd m b e).2.1.length≤8193:=by
 unfold rkbd
 by_cases h:bdOf m b e=0
 ·rw[if_neg (by simp[h])]
  unfold bdOf at h
  by_cases hc:chkOf m b=0
  ·obtain ⟨n,rfl,ob⟩:=ql4 hc
   have:=ob.max
   have:=qwW n e.toNat
   simp only[qiD,qvP]
   omega
  ·rw[if_pos hc] at h;exact absurd h hc
 ·rw[if_pos h];simp
theorem quQ {l:qyo}{a k:Int}:(gw l a k).2.1.length≤1024:=by
 unfold gw
 by_cases h:gwOf l a k=0
 ·rw[if_neg (by simp[h])]
  by_cases h1:ggOf l a=0
  ·by_cases h2:Zk k
   ·rw[qq3 h1 h2] at h
    split at h
    ·simp at h
    ·simp only[ok3,qcP];omega
   ·rw[qq2 h1 h2] at h;simp at h
  ·rw[qq1 h1] at h;exact absurd h h1
 ·rw[if_pos h];simp
theorem qve {node back least k:Int}{x fr:qyo}:(sw node x fr back least k).2.1.length≤1024:=by
 unfold sw
 split
 ·simp
 ·split
  ·simp
  ·simp only[qcP];omega
theorem qtk {g:List (qyo)}{B least k:Int}:(pwr g B least k).2.2.2.2.2.1.length≤1024∧U8s (pwr g B least k).2.2.2.2.2.1∧I64 (pwr g B least k).2.2.2.2.1:=by
 unfold pwr
 by_cases h:pkE g B least k=0
 ·rw[if_neg (by simp[h])]
  have h1:=(qcr h).2.2
  refine ⟨by simp only[qcP];omega,qdY (qdC _),?_⟩
  unfold I64;simp only;omega
 ·rw[if_pos h];exact ⟨by simp,fun x hx=>by simp at hx,by unfold I64;simp⟩
theorem qr6 {l:qyo}{least:Int}:(spl l least).2.1.length≤300:=by
 unfold spl
 by_cases h:spE l least=0
 ·rw[if_neg (by simp[h])]
  have h1:=(qnO.1 h).1
  exact (qpd h1.1 h1.2).2
 ·rw[if_pos h];simp
theorem qnj {F:Nat}(hF:20000≤F){l:qyo}{t:Int}:∃ r:qyo×Int,qdn F (fw l t).1 (fw l t).2.1 (fw l t).2.2.1 (fw l t).2.2.2.1 (fw l t).2.2.2.2.1 (fw l t).2.2.2.2.2.1 (fw l t).2.2.2.2.2.2.1=some r∧r.1.length≤300:=by
 unfold qdn
 rcases qif (l:=l) (t:=t) with ⟨ns,k,rfl,rfl,hk,hm,hu,hf,e⟩ | ⟨e,he,hf,_⟩
 ·rw[e]
  simp only[fo8]
  rw[qis hF (qt7 hu hf) (qov hk hm hu hf)]
  exact ⟨_,rfl,by simp only[qcp];omega⟩
 ·rw[hf]
  simp only[fz8]
  have b:Bd 0 [] 0 []:=⟨fun x hx=>by simp at hx,fun x hx=>by simp at hx,by unfold I64;omega,by unfold I64;omega,by simp,by simp⟩
  by_cases g:∃ l,Good l 0 0 0 0 [] 0 []
  ·obtain ⟨l,g⟩:=g
   rw[qis hF b g]
   obtain ⟨k,_,_,hn,_⟩:=g
   exact ⟨_,rfl,by simp only[qcp];omega⟩
  ·rw[qqN hF b g]
   exact ⟨_,rfl,by simp⟩
theorem quL {l:qyo}{t:Int}:(fw l t).2.2.2.2.1.length≤1100∧(fw l t).2.2.2.2.2.2.1.length≤1100:=by
 rcases qif (l:=l) (t:=t) with ⟨ns,kk,_,_,h3,h4,h5,h6,h7⟩ | ⟨e,h1,h2,_⟩
 ·rw[h7]
  have e1:=qee kk ns
  have e2:=qfq h5
  unfold Fits at h6
  unfold fo8
  simp only[qcP]
  omega
 ·rw[h2];unfold fz8;simp
theorem qtv {g:List (qyo)}{B least k:Int}:(shb g B least k).2.2.2.2.2.1.length≤1100∧(shb g B least k).2.2.2.2.2.2.2.2.2.2.1.length≤1100∧(shb g B least k).2.2.2.2.2.2.2.2.2.2.2.2.1.length≤1100:=by
 unfold shb
 by_cases h:shE g B least k=0
 ·rw[if_neg (by simp[h])]
  have h1:=(qcr (qln.1 h).1).2.2
  have h2:=qop (g:=g) (B:=B) (least:=least) (k:=k)
  simp only[qcP]
  omega
 ·rw[if_pos h];unfold shz;simp
theorem qnM {F:Nat}(hF:2000200≤F){g:List (qyo)}{B least k:Int}:∃ r:qyo×Int×Int,ke F (shb g B least k).1 (shb g B least k).2.1 (shb g B least k).2.2.1 (shb g B least k).2.2.2.1 (shb g B least k).2.2.2.2.1 (shb g B least k).2.2.2.2.2.1 (shb g B least k).2.2.2.2.2.2.1 (shb g B least k).2.2.2.2.2.2.2.1 (shb g B least k).2.2.2.2.2.2.2.2.1 (shb g B least k).2.2.2.2.2.2.2.2.2.1 (shb g B least k).2.2.2.2.2.2.2.2.2.2.1 (shb g B least k).2.2.2.2.2.2.2.2.2.2.2.1 (shb g B least k).2.2.2.2.2.2.2.2.2.2.2.2.1 0=some r∧r.1.length≤1000:=by
 by_cases hE:shE g B least k=0
 ·have s:=qpc hE
  rw[qnJ hE]
  simp only
  by_cases h0:0<g.length
  ·rw[show (0:Int)=((0:Nat):Int) from rfl,qk9 hF s h0]
   refine ⟨_,rfl,?_⟩
   have hg:=qdk.1 (qcr (qln.1 hE).1).1
   have:=qii hg (l:=g.getD 0 []) (by rw[qwg,qvL h0];exact qwe h0)
   simp only;omega
  ·rw[qmm hF s (by omega)]
   exact ⟨_,rfl,by simp⟩
 ·unfold shb
  rw[if_pos hE]
  unfold shz
  simp only
  rw[qrb hF (fun x hx=>by simp at hx) (by unfold I64;omega) (by simp) (by decide)]
  exact ⟨_,rfl,by simp⟩
theorem qm5 {F:Nat}{rec38:(Int×List (qyo)×Int)→Option Bool}{ls:List (qyo)}{i:Nat}{l:qyo}(hl:ls[i]?=some l)(hp:∀ x∈l,0≤x)(hm:l.length≤100000):∀ (k j:Nat),j≤l.length→l.length<k+j →
  jK F rec38 (i:Int) ls (i:Int) k (j:Int)=qc3 F rec38 (i:Int) ls (i:Int)
 | 0,_,_,h=>by omega
 | k+1,j,hj,h=>by
  show qc2 F rec38 (i:Int) ls (i:Int) (jK F rec38 (i:Int) ls (i:Int) k) (j:Int)=_
  unfold qc2
  simp only[qG,hl,qvK,qv3,decide_true,chk,if_true]
  by_cases hlt:j<l.length
  ·rw[if_pos (by simp;omega),qvL hlt]
   simp only[qvK]
   have:=hp _ (qwe hlt)
   rw[if_neg (by simp;omega),qD (by omega) (by omega)]
   exact qm5 hl hp hm k (j+1) (by omega) (by omega)
  ·rw[if_neg (by simp;omega)]
theorem qkm {F:Nat}(hF:100000<F):∀ (k i:Nat) (ls:List (qyo)),ls.length≤100000→(∀ j,i≤j→∀ l,ls[j]?=some l→(∀ x∈l,0≤x)∧l.length≤100000)→i≤ls.length→ls.length<k+i →
  kb F k ((i:Int),ls,(i:Int))=some true
 | 0,_,_,_,_,_,h=>by omega
 | k+1,i,ls,hm,hp,hi,h=>by
  show qc1 F (kb F k) (i:Int) ls (i:Int)=_
  unfold qc1
  by_cases hlt:i<ls.length
  ·have hg:=qvL hlt
   obtain ⟨h1,h2⟩:=hp i (qv3 _) _ hg
   rw[if_pos (by simp;omega),show (0:Int)=((0:Nat):Int) from rfl,qm5 hg h1 h2 F 0 (by omega) (by omega)]
   unfold qc3
   obtain ⟨r,hr,e⟩:=qiN (F:=F) (ls:=[ls[i]]) (by simp) hF (by simp;omega)
   simp only[qG,hg,qvK,e,hr,decide_true,qv3,chk,if_true,lett]
   rw[qD (by omega) (by omega)]
   rw[if_pos (by simp),if_pos (by simp)]
   unfold qek
   rw[qD (by omega) (by omega)]
   refine qkm hF k (i+1) _ (by simp;omega) (fun j hj l hjl=>hp j (by omega) l ?_) (by simp;omega) (by simp;omega)
   rw[List.getElem?_set_ne (by omega)] at hjl
   exact hjl
  ·rw[if_neg (by simp;omega)]
   rfl
theorem qm4 {F:Nat}(hF:100000<F){g:List (qyo)}(hm:g.length≤100000)(hp:∀ l∈g,(∀ x∈l,0≤x)∧l.length≤100000):qfp F g=some true :=
 qkm hF F 0 g hm (fun j _ l h=>hp l (qvO h)) (by omega) (by omega)
theorem qpU {F:Nat}(hF:100000<F){N B least k m:Int}{b:qyo}(hb:U8s b):qfp F (prd N B least k m b).1=some true:=by
 by_cases h:(prd N B least k m b).2=0
 ·obtain ⟨g,e,hg,_⟩:=qrv hb h
  rw[e]
  have hG:=qdk.1 (qcr hg).1
  refine qm4 hF (by have:=hG.1;simp only;omega) fun l hl=>⟨fun x hx=>((hG.2.1 l hl).2 x hx).1,?_⟩
  have:=qii hG hl
  omega
 ·rw[qti h]
  exact qm4 hF (by simp) (by simp)
theorem qs8 {ls:List (qyo)}{l:qyo}(h:l∈ls):l.length≤(ls.map qxF).sum:=by
 induction ls with
 | nil=>simp at h
 | cons a ls ih =>
  simp only[List.map_cons,List.sum_cons]
  rcases qvR.1 h with rfl | h
  ·omega
  ·have:=ih h;omega
theorem qqm (hF:2000200+(x14.map qxF).sum≤F)(hs:∀ l∈x14,l.length*8≤140737488351232)(hm:x14.length*24≤140737488351232)
  (hj:j6 F x1 x4 x7 x8 x55 x58 x60 x63=some true):∀ (k i:Nat),i≤x14.length→x14.length<k+i →
  ye F x1 x4 x7 x8 x14 x55 x58 x60 x63 x14 k (i:Int)=some true
 | 0,_,_,h=>by omega
 | k+1,i,hi,h=>by
  show jV F x1 x4 x7 x8 x14 x55 x58 x60 x63 x14 (ye F x1 x4 x7 x8 x14 x55 x58 x60 x63 x14 k) (i:Int)=_
  unfold jV
  by_cases hlt:i<x14.length
  ·have h1:=hs _ (qwe hlt)
   have h2:=qs8 (qwe hlt)
   rw[if_pos (by simp;omega)]
   simp only[qG,qvL hlt,qvK]
   rw[qk6 (by omega) (by omega)]
   simp only[qvK,qwc,qv0,if_false]
   rw[qD (by omega) (by omega)]
   exact qqm hF hs hm hj k (i+1) (by omega) (by omega)
  ·rw[if_neg (by simp;omega)]
   exact hj
theorem qqn (hF:2000200+(x14.map qxF).sum≤F)(hs:∀ l∈x14,l.length*8≤140737488351232)(hm:x14.length*24≤140737488351232)
  (hj:qaU F x1 x4 x7 x8 x11 x12 x13 x14 x17 x18 x55 x58 x60 x63 x14=some true):∀ (k i:Nat),i≤x14.length→x14.length<k+i →
  yf F x1 x4 x7 x8 x11 x12 x13 x14 x17 x18 x55 x58 x60 x63 k ((i:Int),x14.take i)=some true
 | 0,_,_,h=>by omega
 | k+1,i,hi,h=>by
  show jW F x1 x4 x7 x8 x11 x12 x13 x14 x17 x18 x55 x58 x60 x63 (yf F x1 x4 x7 x8 x11 x12 x13 x14 x17 x18 x55 x58 x60 x63 k) (i:Int) (x14.take i)=_
  unfold jW
  by_cases hlt:i<x14.length
  ·have h1:=hs _ (qwe hlt)
   rw[if_pos (by simp;omega)]
   simp only[qG,qvL hlt,qvK]
   rw[qiF (by omega)]
   simp only[qvK,decide_true,chk,if_true]
   rw[yb (by simp;omega),qD (by omega) (by omega)]
   simp only[qvK]
   have:=qqn hF hs hm hj k (i+1) (by omega) (by omega)
   rw[qxA,qvL hlt] at this
   exact this
  ·rw[if_neg (by simp;omega),List.take_of_length_le (by omega)]
   exact hj
theorem qjD {F:Nat}{x1 x4:qyo}{x7:Int}{x8:qyo}{x11 x12 x13:Int}{x14:List (qyo)}{x17 x18:Int}(hF:2000200+(x14.map qxF).sum+x14.length+x1.length+x4.length+x8.length≤F)
  (l1:x1.length*8≤140737488351232) (l4:x4.length*8≤140737488351232) (g7:I64 x7) (b8:U8s x8) (l8:x8.length*1≤140737488351232) (hs:∀ l∈x14,l.length*8≤140737488351232) (hm:x14.length*24≤140737488351232) :
  qej F x1 x4 x7 x8 x11 x12 x13 x14 x17 x18=some true:=by
 unfold qej
 rw[qiF (by omega),qiF (by omega),qhz (by omega)]
 simp only[qvK]
 unfold yE
 refine qqn (by omega) hs hm ?_ F 0 (by omega) (by omega)
 unfold qaU
 simp only
 rw[qoq (by omega)]
 simp only[qvK]
 rw[qqS (by omega) quO,qpN (by omega),qmL (by omega)]
 simp only[qvK]
 have hp:=@qtk x14 x11 x12 x13
 rw[qey (by omega),qgZ (by omega),qgr (by omega),qj4 (by omega),qfA (by omega),qiT (by omega) b8 g7 (by omega),qfu (by omega)]
 simp only[qvK]
 rw[qhz (by omega)]
 simp only[qvK]
 unfold qaV
 simp only
 obtain ⟨r1,e1,n1⟩:=qnj (F:=F) (by omega) (l:=x1) (t:=x17)
 obtain ⟨r2,e2,n2⟩:=qnM (F:=F) (by omega) (g:=x14) (B:=x11) (least:=x12) (k:=x13)
 rw[qgI (by omega) hp.2.1 hp.2.2 (by omega),qiz (by omega),qqw (by omega) b8 g7 (by omega),qjU (by omega)]
 simp only[qvK]
 rw[e1,qiQ (by omega)]
 simp only[qvK]
 rw[e2]
 simp only[qvK]
 rw[qlV (by omega)]
 simp only[qvK,qwc,qv0,if_false]
 rw[qlY (by omega)]
 simp only[qvK,qwc]
 unfold jX
 rw[if_neg (by simp),qlW (by omega)]
 simp only[qvK,qwc]
 unfold jY
 rw[if_neg (by simp),sbegun (by omega)]
 simp only[qvK,qwc]
 unfold jZ
 rw[if_neg (by simp),pbegun (by omega)]
 simp only[qvK,qwc]
 unfold j1
 rw[if_neg (by simp),qlX (by omega)]
 simp only[qvK,qwc]
 unfold j2
 rw[if_neg (by simp),qlU (by omega)]
 simp only[qvK,qwc]
 unfold j3
 rw[if_neg (by simp),qtw (by omega)]
 simp only[qvK,qwc]
 unfold j4
 rw[if_neg (by simp)]
 have hspl:=@qr6 x1 3
 have hrm:=@qrK (spl x1 3).1 (spl x1 3).2.1
 have hbl:=@qsN x4 x1
 have hcp:=@qsT x4 []
 have hpj:=@qtd x4 [] []
 have hgb:=@quN (gg x1 x18).1 x18
 have hsr:=@qvb x7 0 x18 x11 x12 x13 x8 x4
 have hpt:=@qtj x14 x11 x12 x13
 have hrk:=@qrI x7 3 x8
 obtain ⟨r,hr,e⟩:=qiN (F:=F) (ls:=[(gb (gg x1 x18).1 x18).1,(spl x1 3).2.1,(rm (spl x1 3).1 (spl x1 3).2.1).1,(bls x4 x1).1,(bls x4 x1).2.1,(cpy x4 []).1,(pjn x4 [] []).1,(sr x7 x8 0 x18 x4 x11 x12 x13).1,(ptl x14 x11 x12 x13).1,(ptl x14 x11 x12 x13).2.1,r1.1,r2.1,(rkbd x7 x8 3).2.1])
  (by simp) (by omega) (by
   intro l hl
   simp only[qvR,List.mem_nil_iff,or_false] at hl
   rcases hl with rfl | rfl | rfl | rfl | rfl | rfl | rfl | rfl | rfl | rfl | rfl | rfl | rfl <;> omega)
 rw[e]
 simp only[qvK,hr,decide_true,chk,if_true]
 rw[qpU (by omega) hp.2.1]
 simp only[qvK,qwc,qv0,if_false]
 rw[show jf F (pwr x14 x11 x12 x13).2.2.2.2.1 ((pwr x14 x11 x12 x13).2.2.2.2.2.1,[77]) (pwr x14 x11 x12 x13).2.2.2.2.1 (pwr x14 x11 x12 x13).2.2.2.2.2.1=some true from qhx (by omega) (by omega)]
 simp only[qvK,qwc]
 unfold j5
 rw[if_neg (by simp)]
 have hgw:=@quQ x1 x18 2
 have hsw:=@qve x18 x11 x12 x13 x1 x4
 have hfw:=@quL x1 x17
 have hsb:=@qtv x14 x11 x12 x13
 obtain ⟨r,hr,e⟩:=qiM (F:=F) (ls:=[((gw x1 x18 2).1,(gw x1 x18 2).2.1),((sw x18 x1 x4 x11 x12 x13).1,(sw x18 x1 x4 x11 x12 x13).2.1),((pwr x14 x11 x12 x13).2.2.2.2.1,(pwr x14 x11 x12 x13).2.2.2.2.2.1),((fw x1 x17).2.2.2.1,(fw x1 x17).2.2.2.2.1),((fw x1 x17).2.2.2.2.2.1,(fw x1 x17).2.2.2.2.2.2.1),((shb x14 x11 x12 x13).2.2.2.2.1,(shb x14 x11 x12 x13).2.2.2.2.2.1),((shb x14 x11 x12 x13).2.2.2.2.2.2.2.2.2.1,(shb x14 x11 x12 x13).2.2.2.2.2.2.2.2.2.2.1),((shb x14 x11 x12 x13).2.2.2.2.2.2.2.2.2.2.2.1,(shb x14 x11 x12 x13).2.2.2.2.2.2.2.2.2.2.2.2.1)])
  (by simp) (by omega) (by
   intro l hl
   simp only[qvR,List.mem_nil_iff,or_false] at hl
   rcases hl with rfl | rfl | rfl | rfl | rfl | rfl | rfl | rfl <;> simp only <;> omega)
 rw[e]
 simp only[qvK,hr,decide_true,chk,if_true]
 refine qqm (by omega) hs hm ?_ F 0 (by omega) (by omega)
 unfold j6
 rw[show qdm F (x1,[77]) x1=some true from qk6 (by omega) (by omega)]
 simp only[qvK,if_true]
 rw[show qdm F (x4,[77]) x4=some true from qk6 (by omega) (by omega)]
 simp only[qvK]
 unfold j7
 rw[if_pos rfl,show jf F x7 (x8,[77]) x7 x8=some true from qhx (by omega) (by omega)]
 rfl
end Go.Proofs.YtmoikolponkmpaaGreat
