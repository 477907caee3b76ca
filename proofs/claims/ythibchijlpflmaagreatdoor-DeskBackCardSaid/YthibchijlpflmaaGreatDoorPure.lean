/- Plain facts of what the functions of this seat compute. -/
import Derived.Test.YthibchijlpflmaaGreatDoorModels
import Derived.KernelRfl
import Derived.Lib.SlicesCompact
import Derived.Lib.SplitLaws
open Bool renaming false_eq_true→qrC, or_eq_true→qr4, and_true→qsh
open Int renaming eq_ofNat_of_zero_le→qqP, toNat_natCast→qqZ, le_refl→qsg
open List renaming mem_of_getElem?→qqE, replicate→qqF, mem_append→qqG, getElem?_eq_getElem→qqH, getElem?_eq_some_iff→qqI, mem_cons→qqK, length_append→qqL, length_take→qqN, mem_singleton→qqQ, mem_cons_self→qqX, take_of_length_le→qq3, getElem?_eq_none→qq4, drop_eq_nil_of_le→qq5, length_replicate→qq9, nodup_append→qra, nil_append→qrc, length_map→qre, mem_map→qrf, map_cons→qri, drop_eq_getElem_cons→qrq, take_append_drop→qru, cons_append→qrw, getElem?_set→qrz, getElem_mem→qrD, drop_zero→qrE, length_cons→qrF, pairwise_cons→qrG, getD_eq_getElem?_getD→qrR, getElem?_of_mem→qrT, range→qrU, ext_getElem→qrX, perm_ext_iff_of_nodup→qr6, nodup_cons→qr8, take_left'→qsn, mem_filter→qsr, pairwise_append→qss, take_zero→qsx, getD→qsy, pairwise_map→qsA
open List.cons renaming injEq→qsq
open Nat renaming le_refl→qqY, zero_add→qrg
open Option renaming bind_some→qqD
open Option.some renaming inj→qso
namespace Go.Proofs.YthibchijlpflmaaGreatDoor
open Go SX
def Bit (l:qsO):Prop:=∀ x∈l,x=0∨x=1
theorem Bit.getD {l:qsO}(h:Bit l)(i:Nat):l.getD i 0=0∨l.getD i 0=1:=by
 by_cases hi:i<l.length
 ·have:=h l[i] (qrD hi)
  simpa[qsy,hi] using this
 ·left
  simp[qsy,qq4 (Nat.le_of_not_lt hi)]
theorem qol {a b:Nat}(h:a+b<9223372036854775808):iadd .i64 (a:Int) (b:Int)=((a+b:Nat):Int):=by rw[qcn (by omega) (by omega)];omega
theorem qar {a:Nat}(h:a+1<9223372036854775808):iadd .i64 (a:Int) 1=((a+1:Nat):Int):=by rw[qcn (by omega) (by omega)];omega
def nb (n:Nat):Nat→qsO
 | 0=>[]
 | w+1=>((n/2^w%2:Nat):Int)::nb n w
theorem qoB {α:Type}{l:List α}{i j:Nat}(h1:i≤j)(h2:j≤l.length):sub l (i:Int) (j:Int)=some ((l.take j).drop i):=by
 unfold sub
 rw[if_pos ⟨by omega,by omega,by omega⟩,qqZ,qqZ]
def len (x:Nat):Nat:=if x=0 then 0 else x.log2+1
def sh (m:Nat):Nat:=len (m-1)
def dd (m:Nat):Nat:=2^sh m-m
def le (n m:Nat):qsO:=if n<dd m then nb n (sh m-1) else nb (n+dd m) (sh m)
theorem qic (F:Nat){xs:qsO}(hm:xs.length≤1000000):∀ (k i:Nat),xs.length<k+i→i≤xs.length→yT F xs xs k (i:Int)=some true
 | 0,_,_,_=>by omega
 | k+1,i,h,hi=>by
  show qab F xs xs (yT F xs xs k) (i:Int)=_
  unfold qab
  by_cases hlt:i<xs.length
  ·rw[if_pos (by simp;omega),kY,qqH hlt]
   simp only[qqD]
   rw[if_neg (by simp),qar (by omega)]
   exact qic F hm k (i+1) (by omega) (by omega)
  ·rw[if_neg (by simp;omega)];rfl
theorem qmB {F:Nat}{xs:qsO}(hF:xs.length<F)(hm:xs.length≤1000000):qcL F xs xs=some true:=by
 unfold qcL
 rw[if_neg (by simp)]
 exact qic F hm F 0 (by omega) (by omega)
def qas {σ τ:Type}(yy:σ→(Int×Int)→Option (σ ⊕ τ)):List (Int×Int)→σ→Option (σ ⊕ τ)
 | [],s=>some (.inl s)
 | r::R,s=>(yy s r).bind (Sum.elim (fun s'=>qas yy R s') (fun t=>some (.inr t)))
def rowE (n:Int):Int→qsO→Int
 | _,[]=>0
 | last,x::l=>if x<0∨n≤x then 3 else if x≤last then 4 else rowE n x l
def gE (n:Int):List (qsO)→Int
 | []=>0
 | l::g=>if rowE n (-1) l≠0 then rowE n (-1) l else gE n g
def gtot:List (qsO)→Nat
 | []=>0
 | l::g=>l.length+gtot g
def gchk (g:List (qsO)):Int:=if 100<g.length then 2 else if gE g.length g≠0 then gE g.length g else if 600<gtot g then 2 else 0
theorem qir:∀ {n last:Int} {l:qsO},rowE n last l=0↔(l.Pairwise (·<·)∧∀ x∈l,last<x)∧∀ x∈l,0≤x∧x<n
 | n,last,[]=>by simp[rowE]
 | n,last,x::l=>by
  unfold rowE
  by_cases h1:x<0∨n≤x
  ·rw[if_pos h1]
   constructor
   ·intro h;simp at h
   ·rintro ⟨_,h⟩;have:=h x (by simp);omega
  ·rw[if_neg h1]
   by_cases h2:x≤last
   ·rw[if_pos h2]
    constructor
    ·intro h;simp at h
    ·rintro ⟨⟨_,h⟩,_⟩;have:=h x (by simp);omega
   ·rw[if_neg h2,qir,qrG]
    constructor
    ·rintro ⟨⟨a1,a2⟩,a3⟩
     refine ⟨⟨⟨a2,a1⟩,fun y hy=>?_⟩,fun y hy=>?_⟩
     ·rcases qqK.1 hy with rfl | hy
      ·omega
      ·have:=a2 y hy;omega
     ·rcases qqK.1 hy with rfl | hy
      ·omega
      ·exact a3 y hy
    ·rintro ⟨⟨⟨a1,a2⟩,a3⟩,a4⟩
     exact ⟨⟨a2,a1⟩,fun y hy=>a4 y (by simp[hy])⟩
theorem qkO {n last:Int}:∀ {l:qsO},-1≤last→last<n→rowE n last l=0→last+1+l.length≤n
 | [],h1,h2,_=>by simp;omega
 | x::l,h1,h2,h=>by
  unfold rowE at h
  split at h
  ·simp at h
  ·split at h
   ·simp at h
   ·have:=qkO (l:=l) (by omega) (by omega) h
    rw[qrF];omega
theorem qoi {n:Int}:∀ {g:List (qsO)},gE n g=0↔∀ l∈g,rowE n (-1) l=0
 | []=>by simp[gE]
 | l::g=>by
  unfold gE
  by_cases h:rowE n (-1) l=0
  ·rw[if_neg (by simp[h]),qoi];simp[h]
  ·rw[if_pos h];simp[h]
def Gr (g:List (qsO)):Prop:=g.length≤100∧(∀ l∈g,l.Pairwise (·<·)∧∀ x∈l,0≤x∧x<g.length)∧gtot g≤600
theorem qfT {g:List (qsO)}:gchk g=0↔Gr g:=by
 unfold gchk Gr
 by_cases h1:100<g.length
 ·rw[if_pos h1];simp;omega
 ·rw[if_neg h1]
  by_cases h2:gE g.length g=0
  ·rw[if_neg (by simp[h2])]
   have h3:=qoi.1 h2
   have h4:∀ l∈g,l.Pairwise (·<·)∧∀ x∈l,0≤x∧x<(g.length:Int):=fun l hl=>by
    have:=qir.1 (h3 l hl)
    exact ⟨this.1.1,this.2⟩
   by_cases h5:600<gtot g
   ·rw[if_pos h5];simp;omega
   ·rw[if_neg h5]
    exact ⟨fun _=>⟨by omega,h4,by omega⟩,fun _=>rfl⟩
  ·rw[if_pos h2]
   refine ⟨fun h=>absurd h h2,fun h=>absurd (qoi.2 fun l hl=>qir.2 ⟨⟨(h.2.1 l hl).1,fun x hx=>?_⟩,(h.2.1 l hl).2⟩) h2⟩
   have:=(h.2.1 l hl).2 x hx;omega
theorem qhM {g:List (qsO)}(h:Gr g){l:qsO}(hl:l∈g):l.length≤100:=by
 have h1:=(h.2.1 l hl).2
 have h2:rowE g.length (-1) l=0:=qir.2 ⟨⟨(h.2.1 l hl).1,fun x hx=>by have:=h1 x hx;omega⟩,h1⟩
 have:=qkO (by omega) (by omega) h2
 have:=h.1
 omega
theorem qlo {F:Nat}{rec38:(Int×Int)→Option Int}{g:List (qsO)}{m i:Int}{l:qsO}(hg:g.length≤100):∀ (k j:Nat) (last:Int),102<k+j→(j:Int)≤last+1→last<g.length→-1≤last →
  ym F rec38 g m i l k (last,(j:Int))=if rowE g.length last (l.drop j)≠0 then some (rowE g.length last (l.drop j)) else jo F rec38 m i l
 | 0,j,last,h,h1,h2,h3=>by omega
 | k+1,j,last,h,h1,h2,h3=>by
  show jn F rec38 g m i l (ym F rec38 g m i l k) last (j:Int)=_
  unfold jn
  by_cases hlt:j<l.length
  ·rw[if_pos (by simp;omega),kY,qqH hlt,qrq hlt]
   simp only[qqD]
   unfold rowE
   by_cases c1:l[j]<0∨(g.length:Int)≤l[j]
   ·rw[if_pos (by simpa using c1),if_pos c1,if_pos (by decide)]
   ·rw[if_neg (by simpa using c1),if_neg c1]
    by_cases c2:l[j]≤last
    ·rw[if_pos (by simpa using c2),if_pos c2,if_pos (by decide)]
    ·rw[if_neg (by simpa using c2),if_neg c2,qar (by omega)]
     exact qlo hg k (j+1) l[j] (by omega) (by omega) (by omega) (by omega)
  ·rw[if_neg (by simp;omega),qq5 (by omega)]
   rw[if_neg (by simp[rowE])]
theorem qjH {F:Nat}(hF:1000≤F){g:List (qsO)}(hg:g.length≤100):∀ (k i:Nat) (m:Nat),g.length<k+i→i≤g.length→m≤100*i →
  zq F g k ((m:Int),(i:Int))=if gE g.length (g.drop i)≠0 then some (gE g.length (g.drop i)) else if 600<m+gtot (g.drop i) then some 2 else some 0
 | 0,_,_,_,_,_=>by omega
 | k+1,i,m,h,hi,hm=>by
  show jm F g (zq F g k) (m:Int) (i:Int)=_
  unfold jm
  by_cases hlt:i<g.length
  ·rw[if_pos (by simp;omega),kY,qqH hlt,qrq hlt]
   simp only[qqD]
   have hin:=qlo (F:=F) (rec38:=zq F g k) (m:=(m:Int)) (i:=(i:Int)) (l:=g[i]) hg F 0 (-1) (by omega) (by omega) (by omega) (by omega)
   rw[qrE,show ((0:Nat):Int)=0 from rfl] at hin
   rw[hin]
   unfold gE gtot
   by_cases hr:rowE g.length (-1) g[i]=0
   ·have hlen:=qkO (by omega) (by omega) hr
    have e:(if rowE (g.length:Int) (-1) g[i]≠0 then rowE (g.length:Int) (-1) g[i] else gE (g.length:Int) (g.drop (i+1)))=gE (g.length:Int) (g.drop (i+1)):=if_neg (by simp[hr])
    rw[if_neg (show ¬ rowE (g.length:Int) (-1) g[i]≠0 by simp[hr]),e]
    unfold jo qa1
    rw[qol (by omega),qar (by omega),qjH hF hg k (i+1) (m+g[i].length) (by omega) (by omega) (by omega),Nat.add_assoc]
   ·rw[if_pos (by simpa using hr)]
    have e:(if rowE (g.length:Int) (-1) g[i]≠0 then rowE (g.length:Int) (-1) g[i] else gE (g.length:Int) (g.drop (i+1)))=rowE (g.length:Int) (-1) g[i]:=if_pos hr
    rw[e,if_pos hr]
  ·rw[if_neg (by simp;omega),qq5 (by omega)]
   unfold qa0
   rw[if_neg (show ¬ gE (g.length:Int) []≠0 by simp[gE])]
   by_cases h6:600<m
   ·rw[if_pos (by simp;omega),if_pos (by simpa[gtot] using h6)]
   ·rw[if_neg (by simp;omega),if_neg (by simpa[gtot] using h6)]
theorem qec {F:Nat}(hF:1000≤F){g:List (qsO)}:kd F g=some (gchk g):=by
 unfold kd gchk
 by_cases h:100<g.length
 ·rw[if_pos (by simp;omega),if_pos h]
 ·have:=qjH hF (g:=g) (by omega) F 0 0 (by omega) (by omega) (by omega)
  rw[qrE,qrg,show ((0:Nat):Int)=0 from rfl] at this
  rw[if_neg (by simp;omega),if_neg h,this]
  split
  ·rfl
  ·split <;> rfl
def af (i:Nat):List (qsO)→List (Int×Int)
 | []=>[]
 | l::g=>l.map (fun x=>((i:Int),x))++af (i+1) g
theorem qh8 {σ τ:Type}{yy:σ→(Int×Int)→Option (σ ⊕ τ)}:∀ (A B:List (Int×Int)) (s:σ),qas yy (A++B) s=(qas yy A s).bind (Sum.elim (fun s'=>qas yy B s') (fun t=>some (.inr t)))
 | [],B,s=>rfl
 | p::A,B,s=>by
  show (yy s p).bind _=((yy s p).bind _).bind _
  cases yy s p with
  | none=>rfl
  | some r =>
   cases r with
   | inl s'=>exact qh8 A B s'
   | inr t=>rfl
theorem qn6 {σ τ:Type}{F:Nat}{yy:σ→(Int×Int)→Option (σ ⊕ τ)}{rec7:(Int×σ)→Option (σ ⊕ τ)}{i:Int}{l:qsO}(hm:l.length≤1000000):∀ (k j:Nat) (s:σ),l.length<k+j→j≤l.length →
  yl F yy rec7 i l k ((j:Int),s)=(qas yy ((l.drop j).map fun x=>(i,x)) s).bind (Sum.elim (fun s'=>jU F yy rec7 i s') (fun t=>some (.inr t)))
 | 0,_,_,_,_=>by omega
 | k+1,j,s,h,hj=>by
  show jl F yy rec7 i l (yl F yy rec7 i l k) (j:Int) s=_
  unfold jl
  by_cases hlt:j<l.length
  ·rw[if_pos (by simp;omega),kY,qqH hlt,qrq hlt,qri]
   simp only[qqD,qas]
   cases yy s (i,l[j]) with
   | none=>rfl
   | some r =>
    cases r with
    | inl s' =>
     simp only[qqD,Sum.elim_inl]
     rw[qar (by omega)]
     exact qn6 hm k (j+1) s' (by omega) (by omega)
    | inr t=>rfl
  ·rw[if_neg (by simp;omega),qq5 (by omega)]
   rfl
theorem qm2 {σ τ:Type}{F:Nat}{yy:σ→(Int×Int)→Option (σ ⊕ τ)}{g:List (qsO)}(hm:g.length≤1000000)(hr:∀ l∈g,l.length≤1000000∧l.length<F):∀ (k i:Nat) (s:σ),g.length<k+i→i≤g.length →
  zJ F yy g k ((i:Int),s)=qas yy (af i (g.drop i)) s
 | 0,_,_,_,_=>by omega
 | k+1,i,s,h,hi=>by
  show jT F yy g (zJ F yy g k) (i:Int) s=_
  unfold jT
  by_cases hlt:i<g.length
  ·have hrow:=hr _ (qrD hlt)
   rw[if_pos (by simp;omega),kY,qqH hlt,qrq hlt]
   simp only[qqD]
   have:=qn6 (F:=F) (yy:=yy) (rec7:=zJ F yy g k) (i:=(i:Int)) hrow.1 F 0 s (by omega) (by omega)
   rw[qrE,show ((0:Nat):Int)=0 from rfl] at this
   rw[this]
   unfold af
   rw[qh8]
   congr 1
   funext r
   cases r with
   | inl s' =>
    simp only[Sum.elim_inl]
    unfold jU
    rw[qar (by omega)]
    exact qm2 hm hr k (i+1) s' (by omega) (by omega)
   | inr t=>rfl
  ·rw[if_neg (by simp;omega),qq5 (by omega)]
   rfl
theorem qp3 {σ τ:Type}{F:Nat}{yy:σ→(Int×Int)→Option (σ ⊕ τ)}{g:List (qsO)}{s:σ}(hF:g.length<F)(hm:g.length≤1000000)(hr:∀ l∈g,l.length≤1000000∧l.length<F):ve F yy g s=qas yy (af 0 g) s:=by
 unfold ve
 have:=qm2 (yy:=yy) hm hr F 0 s (by omega) (by omega)
 rw[qrE] at this
 exact this
theorem qnr {σ τ:Type}{F:Nat}{yy:σ→(Int×Int)→Option (σ ⊕ τ)}{l:List (Int×Int)}(hm:l.length≤1000000):∀ (k i:Nat) (s:σ),l.length<k+i→i≤l.length →
  za F yy l k ((i:Int),s)=qas yy (l.drop i) s
 | 0,_,_,_,_=>by omega
 | k+1,i,s,h,hi=>by
  show zH F yy l (za F yy l k) (i:Int) s=_
  unfold zH
  by_cases hlt:i<l.length
  ·rw[if_pos (by simp;omega),kY,qqH hlt,qrq hlt]
   simp only[qqD,qas]
   cases yy s l[i] with
   | none=>rfl
   | some r =>
    cases r with
    | inl s' =>
     simp only[qqD,Sum.elim_inl]
     rw[qar (by omega)]
     exact qnr hm k (i+1) s' (by omega) (by omega)
    | inr t=>rfl
  ·rw[if_neg (by simp;omega),qq5 (by omega)]
   rfl
theorem qiN {τ:Type}{lim:Nat}{f:Int×Int→Int×Int}{yy:List (Int×Int)→(Int×Int)→Option (List (Int×Int) ⊕ τ)}(hy:∀ s p,yy s p=(app lim s [f p]).bind fun z=>some (.inl z)):∀ (L s:List (Int×Int)),s.length+L.length≤lim→qas yy L s=some (.inl (s++L.map f))
 | [],s,_=>by simp[qas]
 | p::L,s,h=>by
  rw[qrF] at h
  show (yy s p).bind _=_
  rw[hy,qdn (by simp;omega)]
  simp only[qqD,Sum.elim_inl]
  rw[qiN hy L (s++[f p]) (by simp;omega)]
  simp
theorem qkz:∀ (i:Nat) (g:List (qsO)),(af i g).length=gtot g
 | _,[]=>rfl
 | i,l::g=>by unfold af gtot;rw[qqL,qre,qkz (i+1) g]
theorem qlp {F:Nat}{g:List (qsO)}(hF:1000≤F)(h:Gr g):zG F g=some (af 0 g):=by
 unfold zG zA
 have h1:=h.1
 have h2:=h.2.2
 rw[qp3 (by omega) (by omega) (fun l hl=>by have:=qhM h hl;omega),qiN (lim:=4398046511104) (f:=fun p=>p) ?hy (af 0 g) [] (by rw[qkz];simp;omega)]
 ·simp
 ·exact fun s p=>rfl
theorem qkC {F:Nat}{l:List (Int×Int)}(hF:l.length<F)(hm:l.length≤1000000):qY F l=some l:=by
 unfold qY q5 kI
 have:=fun yy=>qnr (σ:=List (Int×Int)) (τ:=Empty) (F:=F) (yy:=yy) hm F 0 [] (by omega) (by omega)
 rw[show ((0:Nat):Int)=0 from rfl] at this
 rw[this,qrE,qiN (lim:=4398046511104) (f:=fun p=>p) ?hy l [] (by simp;omega)]
 ·simp
 ·exact fun s p=>rfl
def lexLt (p q:Int×Int):Prop:=p.1<q.1∨(p.1=q.1∧p.2<q.2)
instance decLex (p q:Int×Int):Decidable (lexLt p q):=by unfold lexLt;infer_instance
theorem qjQ (a:Int×Int):¬ lexLt a a:=by unfold lexLt;omega
theorem qoq (a b d:Int×Int):lexLt a b→lexLt b d→lexLt a d:=by unfold lexLt;omega
theorem qjR (a b:Int×Int):lexLt a b∨a=b∨lexLt b a:=by
 obtain ⟨a1,a2⟩:=a
 obtain ⟨b1,b2⟩:=b
 simp only[lexLt,Prod.mk.injEq];omega
theorem qiJ {F:Nat}{x y:Int}:y2 F x y=some (if x<y then -1 else if y<x then 1 else 0):=by
 unfold y2 yU
 simp only[bne_self_eq_false,qqD,qrC,if_false,decide_eq_true_eq]
 split
 ·rfl
 ·split <;> rfl
theorem qqA {F:Nat}(hF:3≤F){x y:Int}:qcN F [x,y]=some (if x≠0 then x else y):=by
 obtain ⟨k,rfl⟩:=Nat.exists_eq_add_of_le hF
 rw[Nat.add_comm]
 unfold qcN
 show kV (k+3) [x,y] (yx (k+3) [x,y] (k+2)) 0=_
 unfold kV
 rw[if_pos (by simp)]
 show ((some x).bind _)=_
 simp only[qqD]
 by_cases hx:x=0
 ·rw[if_neg (by simp[hx]),if_neg (by simp[hx])]
  show kV (k+3) [x,y] (yx (k+3) [x,y] (k+1)) 1=_
  unfold kV
  rw[if_pos (by simp)]
  show ((some y).bind _)=_
  simp only[qqD]
  by_cases hy:y=0
  ·rw[if_neg (by simp[hy]),hy]
   show kV (k+3) [x,y] (yx (k+3) [x,y] k) 2=_
   unfold kV
   rw[if_neg (by simp)]
   rfl
  ·rw[if_pos (by simp[hy])]
 ·rw[if_pos (by simp[hx]),if_pos hx]
theorem qos {F:Nat}(hF:3≤F)(a b:Int×Int):∃ z,qbZ F a.1 a.2 b.1 b.2=some z∧(z<0↔lexLt a b):=by
 unfold qbZ
 rw[qiJ,qiJ]
 simp only[qqD]
 rw[qqA hF]
 simp only[qqD]
 unfold lexLt
 by_cases h1:a.1<b.1
 ·exact ⟨-1,by simp[h1],by simp[h1]⟩
 ·by_cases h2:b.1<a.1
  ·exact ⟨1,by simp[h1,h2],by omega⟩
  ·refine ⟨if a.2<b.2 then -1 else if b.2<a.2 then 1 else 0,by simp[h1,h2],?_⟩
   split
   ·omega
   ·split <;> omega
def srtA (l:List (Int×Int)):List (Int×Int):=l.mergeSort fun a b=>decide (¬ lexLt b a)
theorem qeu (l:List (Int×Int)):(srtA l).Perm l:=List.mergeSort_perm l _
theorem qng (l:List (Int×Int)):(srtA l).Pairwise fun a b=>¬ lexLt b a:=by
 have h:=List.pairwise_mergeSort (le:=fun a b:Int×Int=>decide (¬ lexLt b a)) (fun a b c h1 h2=>by simp only[decide_eq_true_eq] at *;unfold lexLt at *;omega) (fun a b=>by simp only[qr4,decide_eq_true_eq];unfold lexLt;omega) l
 exact h.imp (fun h=>by simpa using h)
theorem qi4 (l:List (Int×Int)):(srtA l).length=l.length:=(qeu l).length_eq
theorem qjS {l:List (Int×Int)}(h:l.Pairwise lexLt):l.Nodup:=List.Pairwise.imp (S:=fun a b=>a≠b) (fun {a b} h (he:a=b)=>qjQ a (by rw[← he] at h;exact h)) h
theorem qlQ {l:List (Int×Int)}(h:l.Nodup):(srtA l).Pairwise lexLt:=by
 have h1:(srtA l).Nodup:=(qeu l).nodup_iff.2 h
 refine (List.Pairwise.and (qng l) h1).imp fun {a b} h=>?_
 rcases qjR a b with h2 | h2 | h2
 ·exact h2
 ·exact absurd h2 h.2
 ·exact absurd h2 h.1
theorem qlM {F:Nat}{l:List (Int×Int)}(hF:3≤F)(hl:l.length≤1000000):zD F l=some (srtA l) :=
 qoA (lt:=lexLt) (fun a _ b _=>qos hF a b) qjQ qoq qjR (by omega) (qeu l) (qng l)
theorem qjA {F:Nat}{l:List (Int×Int)}(hF:3≤F)(hF2:l.length<F)(hl:l.length≤1000000):qD F l=some (srtA l):=by
 unfold qD
 rw[qkC hF2 hl]
 simp only[qqD]
 rw[qlM hF hl]
 simp[chk,qi4]
theorem pwx:∀ {A B:qsO},A.Pairwise (·<·)→B.Pairwise (·<·)→(∀ z,z∈A↔z∈B)→A=B:=by
 intro A B hA hB h
 have nd:∀ {C:qsO},C.Pairwise (·<·)→C.Nodup:=fun hC=>hC.imp fun h=>by omega
 exact List.Perm.eq_of_pairwise (le:=fun x y:Int=>x<y) (fun a b _ _ h1 h2=>by omega) hA hB ((qr6 (nd hA) (nd hB)).2 h)
def rowOf (l:List (Int×Int))(i:Int):qsO:=(l.filter fun p=>decide (p.1=i)).map (·.2)
def tab (n:Nat)(l:List (Int×Int)):List (qsO):=(qrU n).map fun (i:Nat)=>rowOf l (i:Int)
theorem qhD (n:Nat)(l:List (Int×Int)):(tab n l).length=n:=by simp[tab]
theorem qno {n i:Nat}{l:List (Int×Int)}(h:i<n):(tab n l)[i]?=some (rowOf l i):=by simp[tab,h]
theorem qnF (l:List (Int×Int))(i:Int):(rowOf l i).length≤l.length:=by
 unfold rowOf
 rw[qre]
 exact List.length_filter_le _ _
theorem qo6 {n a:Nat}{l:List (Int×Int)}{b:Int}:tab n (l++[((a:Int),b)])=(tab n l).set a (rowOf l a++[b]):=by
 apply qrX (by simp[tab])
 intro i h1 h2
 rw[qhD] at h1
 rw[List.getElem_set]
 simp only[tab,List.getElem_map,List.getElem_range]
 by_cases h:a=i
 ·rw[if_pos h,← h];simp[rowOf]
 ·rw[if_neg h]
  have:¬ (a:Int)=(i:Int):=by omega
  simp[rowOf,this]
theorem qpN (n:Nat):tab n []=qqF n []:=by
 apply qrX (by simp[tab])
 intro i h1 h2
 simp[tab,rowOf]
theorem qor {n:Nat}{lim:Nat}(h:n≤lim):mk lim ([]:qsO) (n:Int)=some (tab n []):=by
 unfold mk
 rw[if_pos ⟨by omega,by omega⟩,qpN];simp
def InR (n:Nat)(l:List (Int×Int)):Prop:=∀ p∈l,0≤p.1∧p.1<(n:Int)∧0≤p.2∧p.2<(n:Int)
theorem qcU {α:Type}{l:List α}{j:Nat}(h:j<l.length):l.take (j+1)=l.take j++[l[j]]:=by
 rw[List.take_add_one,qqH h];rfl
theorem qm5 {F n:Nat}{l:List (Int×Int)}(hl:∀ p∈l,0≤p.1∧p.1<(n:Int))(hm:l.length≤1000000):∀ (k j:Nat),l.length<k+j→j≤l.length →
  yF F l k ((j:Int),tab n (l.take j))=some (tab n l)
 | 0,_,_,_=>by omega
 | k+1,j,h,hj=>by
  show jV F l (yF F l k) (j:Int) (tab n (l.take j))=_
  unfold jV
  by_cases hlt:j<l.length
  ·obtain ⟨h1,h2⟩:=hl _ (qrD hlt)
   have hrec:=qm5 (F:=F) hl hm k (j+1) (by omega) (by omega)
   obtain ⟨a,ha⟩:=qqP h1
   have e:l[j]=((a:Int),l[j].2):=by rw[← ha]
   rw[qcU hlt,e,qo6] at hrec
   have hrl:=qnF (l.take j) (a:Int)
   rw[qqN] at hrl
   rw[if_pos (by simp;omega),kY,qqH hlt]
   simp only[qqD]
   rw[ha,kY,qno (by omega)]
   simp only[qqD]
   rw[qdn (by simp;omega)]
   simp only[qqD,lett]
   rw[qar (by omega),qqZ]
   exact hrec
  ·rw[if_neg (by simp;omega),qq3 (by omega)]
   rfl
theorem qn8 {F n:Nat}{l:List (Int×Int)}(hl:∀ p∈l,0≤p.1∧p.1<(n:Int))(hm:l.length≤1000000)(hF:l.length<F)(hn:n≤1000000):j1 F (n:Int) l=some (tab n l):=by
 unfold j1
 rw[qor (by omega)]
 simp only[qqD]
 have:=qm5 (F:=F) hl hm F 0 (by omega) (by omega)
 rw[qsx] at this
 exact this
def IsTab (n:Nat)(l:List (Int×Int))(T:List (qsO)):Prop :=
 T.length=n∧∀ (i:Nat) (r:qsO),T[i]?=some r→r.Pairwise (·<·)∧∀ x,x∈r↔((i:Int),x)∈l
theorem qmv {n:Nat}{l l':List (Int×Int)}{T T':List (qsO)}(h:IsTab n l T)(h':IsTab n l' T')(hm:∀ p,p∈l↔p∈l'):T=T':=by
 apply qrX (by rw[h.1,h'.1])
 intro i h1 h2
 have a:=h.2 i _ (qqH h1)
 have b:=h'.2 i _ (qqH h2)
 exact pwx a.1 b.1 fun z=>by rw[a.2,b.2,hm]
theorem qnC {l:List (Int×Int)}{i x:Int}:x∈rowOf l i↔(i,x)∈l:=by
 unfold rowOf
 rw[qrf]
 constructor
 ·rintro ⟨p,hp,rfl⟩
  obtain ⟨h1,h2⟩:=qsr.1 hp
  have:p.1=i:=by simpa using h2
  rw[← this];exact h1
 ·intro h
  exact ⟨(i,x),qsr.2 ⟨h,by simp⟩,rfl⟩
theorem qoz {l:List (Int×Int)}{i:Int}(h:l.Pairwise lexLt):(rowOf l i).Pairwise (·<·):=by
 unfold rowOf
 rw[qsA]
 refine (h.filter _).imp_of_mem fun {a b} ha hb hab=>?_
 have h1:=(qsr.1 ha).2
 have h2:=(qsr.1 hb).2
 simp only[decide_eq_true_eq] at h1 h2
 unfold lexLt at hab;omega
theorem qn3 {n:Nat}{l:List (Int×Int)}(h:l.Pairwise lexLt):IsTab n l (tab n l):=by
 refine ⟨qhD n l,fun i r hr=>?_⟩
 have hi:i<n:=by have:=(qqI.1 hr).1;rwa [qhD] at this
 rw[qno hi] at hr
 cases hr
 exact ⟨qoz h,fun x=>qnC⟩
theorem qlA {n:Nat}{l l':List (Int×Int)}{T:List (qsO)}(h:IsTab n l T)(hm:∀ p,p∈l↔p∈l'):IsTab n l' T :=
 ⟨h.1,fun i r hr=>⟨(h.2 i r hr).1,fun x=>by rw[(h.2 i r hr).2,hm]⟩⟩
theorem qeM:∀ {g:List (qsO)} {k:Nat} {p:Int×Int},p∈af k g↔∃ i r,g[i]?=some r∧p.1=((k+i:Nat):Int)∧p.2∈r
 | [],k,p=>by simp[af]
 | l::g,k,p=>by
  unfold af
  rw[qqG,qeM (g:=g),qrf]
  constructor
  ·rintro (⟨x,hx,rfl⟩ | ⟨i,r,h1,h2,h3⟩)
   ·exact ⟨0,l,by simp,by simp,hx⟩
   ·exact ⟨i+1,r,by simpa using h1,by omega,h3⟩
  ·rintro ⟨i,r,h1,h2,h3⟩
   cases i with
   | zero =>
    simp only[List.getElem?_cons_zero,Option.some.injEq] at h1
    subst h1
    exact .inl ⟨p.2,h3,by rw[Nat.add_zero] at h2;rw[← h2]⟩
   | succ i =>
    refine .inr ⟨i,r,by simpa using h1,by omega,h3⟩
theorem qn5:∀ {g:List (qsO)} {k:Nat},(∀ r∈g,r.Pairwise (·<·))→(af k g).Pairwise lexLt
 | [],k,_=>by simp[af]
 | l::g,k,h=>by
  unfold af
  rw[qss]
  refine ⟨?_,qn5 fun r hr=>h r (by simp[hr]),?_⟩
  ·rw[qsA]
   exact (h l (by simp)).imp fun h=>.inr ⟨rfl,h⟩
  ·intro a ha b hb
   obtain ⟨x,_,rfl⟩:=qrf.1 ha
   obtain ⟨i,r,_,h2,_⟩:=qeM.1 hb
   left
   show (k:Int)<b.1
   omega
theorem qlm {g:List (qsO)}(h:∀ r∈g,r.Pairwise (·<·)):IsTab g.length (af 0 g) g:=by
 refine ⟨rfl,fun i r hr=>⟨h r (qqE hr),fun x=>?_⟩⟩
 rw[qeM]
 constructor
 ·intro hx;exact ⟨i,r,hr,by simp,hx⟩
 ·rintro ⟨i',r',h1,h2,h3⟩
  have:i'=i:=by simp at h2;omega
  subst this
  rw[hr] at h1
  cases h1
  exact h3
theorem qlB {n:Nat}{l:List (Int×Int)}{T:List (qsO)}(h:IsTab n l T):∀ r∈T,r.Pairwise (·<·):=fun r hr=>by
 obtain ⟨i,hi⟩:=qrT hr
 exact (h.2 i r hi).1
theorem qnA {n:Nat}{l:List (Int×Int)}{T:List (qsO)}(h:IsTab n l T)(hl:InR n l)(p:Int×Int):p∈af 0 T↔p∈l:=by
 rw[qeM]
 constructor
 ·rintro ⟨i,r,h1,h2,h3⟩
  have:=((h.2 i r h1).2 p.2).1 h3
  rw[qrg] at h2
  rw[← h2] at this
  exact this
 ·intro hp
  obtain ⟨h1,h2,_,_⟩:=hl p hp
  obtain ⟨a,ha⟩:=qqP h1
  have hlt:a<T.length:=by rw[h.1];omega
  refine ⟨a,T[a],qqH hlt,by omega,?_⟩
  rw[(h.2 a _ (qqH hlt)).2,← ha]
  exact hp
theorem qmu {n:Nat}{l:List (Int×Int)}{T:List (qsO)}(h:IsTab n l T)(hl:InR n l)(hn:l.Nodup):(af 0 T).Perm l :=
 (qr6 (qjS (qn5 (qlB h))) hn).2 (qnA h hl)
theorem qom {n:Nat}{l:List (Int×Int)}{T:List (qsO)}(h:IsTab n l T)(hl:InR n l)(hn:n≤100)(hm:(af 0 T).length≤600):Gr T:=by
 refine ⟨by rw[h.1];exact hn,fun r hr=>⟨qlB h r hr,fun x hx=>?_⟩,by rw[← qkz 0];exact hm⟩
 obtain ⟨i,hi⟩:=qrT hr
 have:=hl _ (((h.2 i r hi).2 x).1 hx)
 rw[h.1]
 exact ⟨this.2.2.1,this.2.2.2⟩
theorem qjP {g:List (qsO)}(h:Gr g):InR g.length (af 0 g):=fun p hp=>by
 obtain ⟨i,r,h1,h2,h3⟩:=qeM.1 hp
 have h4:=(qqI.1 h1).1
 have h5:=(h.2.1 r (qqE h1)).2 _ h3
 refine ⟨by omega,by omega,h5.1,h5.2⟩
theorem qok {g:List (qsO)}(h:Gr g):∀ r∈g,r.Pairwise (·<·):=fun r hr=>(h.2.1 r hr).1
def ofE (n:Int):List (Int×Int)→List (Int×Int)→Int
 | _,[]=>0
 | seen,p::l=>if p.1<0∨n≤p.1∨p.2<0∨n≤p.2 then 3 else if p∈seen then 6 else ofE n (seen++[p]) l
theorem qhv {n:Int}{seen:List (Int×Int)}{p:Int×Int}{l:List (Int×Int)}:ofE n seen (p::l)=if p.1<0∨n≤p.1∨p.2<0∨n≤p.2 then 3 else if p∈seen then 6 else ofE n (seen++[p]) l:=rfl
theorem qkM {n:Nat}:∀ {l seen:List (Int×Int)},ofE n seen l=0↔InR n l∧l.Nodup∧∀ p∈l,p∉seen
 | [],seen=>by simp[ofE,InR]
 | p::l,seen=>by
  unfold ofE
  by_cases h1:p.1<0∨(n:Int)≤p.1∨p.2<0∨(n:Int)≤p.2
  ·rw[if_pos h1]
   refine ⟨fun h=>by simp at h,fun h=>?_⟩
   have:=h.1 p (by simp);omega
  ·rw[if_neg h1]
   by_cases h2:p∈seen
   ·rw[if_pos h2]
    refine ⟨fun h=>by simp at h,fun h=>?_⟩
    exact absurd h2 (h.2.2 p (by simp))
   ·rw[if_neg h2,qkM,qr8]
    constructor
    ·rintro ⟨a1,a2,a3⟩
     refine ⟨fun q hq=>?_,⟨fun hp=>a3 p hp (by simp),a2⟩,fun q hq=>?_⟩
     ·rcases qqK.1 hq with rfl | hq
      ·omega
      ·exact a1 q hq
     ·rcases qqK.1 hq with rfl | hq
      ·exact h2
      ·exact fun h=>a3 q hq (by simp[h])
    ·rintro ⟨a1,⟨a2,a3⟩,a4⟩
     refine ⟨fun q hq=>a1 q (by simp[hq]),a3,fun q hq h=>?_⟩
     rcases qqG.1 h with h | h
     ·exact a4 q (by simp[hq]) h
     ·have:q=p:=by simpa using h
      subst this;exact a2 hq
def ofM (n:Int)(l:List (Int×Int)):List (qsO)×Int :=
 if n<0∨100<n then ([],3) else if 600<l.length then ([],2) else if ofE n [] l≠0 then ([],ofE n [] l) else (tab n.toNat (srtA l),0)
theorem qqz {F n:Nat}{l:List (Int×Int)}(hF:1000≤F)(hn:n≤100)(hl:l.length≤600):∀ (k j:Nat),l.length<k+j→j≤l.length→(ofE n [] l=ofE n (l.take j) (l.drop j)) →
  vX F (n:Int) l k ((j:Int),l.take j)=some (if ofE n [] l≠0 then ([],ofE n [] l) else (tab n (srtA l),0))
 | 0,_,_,_,_=>by omega
 | k+1,j,h,hj,he=>by
  show qbY F (n:Int) l (vX F (n:Int) l k) (j:Int) (l.take j)=_
  unfold qbY
  by_cases hlt:j<l.length
  ·have hrec:=qqz (F:=F) hF hn hl k (j+1) (by omega) (by omega)
   rw[if_pos (by simp;omega),kY,qqH hlt]
   simp only[qqD]
   rw[qrq hlt,qhv] at he
   by_cases h1:l[j].1<0∨(n:Int)≤l[j].1∨l[j].2<0∨(n:Int)≤l[j].2
   ·rw[if_pos h1] at he
    rw[if_pos (by simp only[qr4,decide_eq_true_eq];omega),if_pos (by rw[he];decide),he]
   ·rw[if_neg h1] at he
    rw[if_neg (by simp only[qr4,decide_eq_true_eq];omega)]
    by_cases h2:l[j]∈l.take j
    ·rw[if_pos h2] at he
     rw[if_pos (by simpa using h2),if_pos (by rw[he];decide),he]
    ·rw[if_neg h2,← qcU hlt] at he
     rw[if_neg (by simpa using h2)]
     have:sins (l.take j) (l[j].1,l[j].2)=some (l.take (j+1)):=by
      unfold sins
      rw[if_neg h2,qcU hlt]
     rw[this]
     simp only[qqD]
     rw[qar (by omega)]
     exact hrec he
  ·rw[qq5 (by omega)] at he
   have he:ofE n [] l=0:=he
   obtain ⟨a1,a2,_⟩:=qkM.1 he
   rw[if_neg (by simp;omega),if_neg (by rw[he];decide)]
   unfold qd6 z8
   simp only[qqD]
   rw[qjA (by omega) (by omega) (by omega)]
   simp only[qqD]
   rw[qn8 (fun p hp=>by have:=a1 p ((qeu l).mem_iff.1 hp);omega) (by rw[qi4];omega) (by rw[qi4];omega) (by omega)]
   rfl
theorem qqy {F:Nat}{n:Int}{l:List (Int×Int)}(hF:1000≤F):qeF F n l=some (ofM n l):=by
 unfold qeF ofM
 by_cases h1:n<0∨100<n
 ·rw[if_pos (by simpa using h1),if_pos h1]
 ·rw[if_neg (by simpa using h1),if_neg h1]
  by_cases h2:600<l.length
  ·rw[if_pos (by simp;omega),if_pos h2]
  ·rw[if_neg (by simp;omega),if_neg h2]
   obtain ⟨m,rfl⟩:=qqP (show 0≤n by omega)
   have:=qqz (F:=F) (n:=m) (l:=l) hF (by omega) (by omega) F 0 (by omega) (by omega) (by simp)
   rw[qsx] at this
   exact this
theorem qnd {n:Nat}{l:List (Int×Int)}(hn:n≤100)(hl:l.length≤600)(h1:InR n l)(h2:l.Nodup):ofM n l=(tab n (srtA l),0):=by
 have h3:ofE n [] l=0:=qkM.2 ⟨h1,h2,fun p _=>by simp⟩
 unfold ofM
 rw[if_neg (by omega),if_neg (by omega),if_neg (by rw[h3];decide),qqZ]
theorem qj1 {n:Nat}{l:List (Int×Int)}(h:l.Nodup):IsTab n l (tab n (srtA l)) :=
 qlA (qn3 (qlQ h)) fun _=>(qeu l).mem_iff
theorem qpg {F:Nat}{g:List (qsO)}(hF:1000≤F):qcO F g=some (if gchk g≠0 then ([],gchk g) else (af 0 g,0)):=by
 unfold qcO qaH
 rw[qec hF]
 simp only[qqD]
 by_cases h:gchk g=0
 ·rw[if_neg (by simp[h]),if_neg (by simp[h]),qlp hF (qfT.1 h)]
  rfl
 ·rw[if_pos (by simpa using h),if_pos h]
theorem qoj {g:List (qsO)}(h:Gr g):(af 0 g).length≤600:=by rw[qkz];exact h.2.2
theorem qhr {g:List (qsO)}(h:Gr g):(af 0 g).Nodup:=qjS (qn5 (qok h))
theorem qnb {g T:List (qsO)}(h:Gr g){l:List (Int×Int)}(hT:IsTab g.length l T)(hm:∀ p,p∈l↔p∈af 0 g):T=g :=
 qmv hT (qlm (qok h)) hm
def Ld (g:List (qsO))(u v:Nat):Prop:=((u:Int),(v:Int))∈af 0 g
theorem qop {g:List (qsO)}{u v:Nat}:Ld g u v↔∃ r,g[u]?=some r∧(v:Int)∈r:=by
 unfold Ld
 rw[qeM]
 constructor
 ·rintro ⟨i,r,h1,h2,h3⟩
  simp only[qrg] at h2
  obtain rfl:u=i:=by omega
  exact ⟨r,h1,h3⟩
 ·rintro ⟨r,h1,h2⟩
  exact ⟨u,r,h1,by simp,h2⟩
theorem qoo {g:List (qsO)}(hg:Gr g){u v:Nat}(h:Ld g u v):u<g.length∧v<g.length:=by
 have:=qjP hg _ h
 simp only at this
 omega
def Wk (g:List (qsO)):Nat→Nat→Nat→Prop
 | 0,s,t=>s=t
 | k+1,s,t=>∃ u,Ld g s u∧Wk g k u t
theorem qpa {g:List (qsO)}:∀ {j k s u t:Nat},Wk g j s u→Wk g k u t→Wk g (j+k) s t
 | 0,k,s,u,_,h1,h2=>by
  have h1:s=u:=h1
  subst h1
  rw[qrg];exact h2
 | j+1,k,_,_,_,⟨w,h0,h1⟩,h2=>by
  rw[show j+1+k=(j+k)+1 by omega]
  exact ⟨w,h0,qpa h1 h2⟩
theorem qqs {g:List (qsO)}{s t:Nat}(h:Ld g s t):Wk g 1 s t:=⟨t,h,rfl⟩
theorem qpR {g:List (qsO)}{k s u t:Nat}(h1:Wk g k s u)(h2:Ld g u t):Wk g (k+1) s t:=qpa h1 (qqs h2)
def gD (d:qsO)(t:Nat):Int:=d.getD t (-1)
theorem qgR {d:qsO}{t:Nat}(h:t<d.length):d[t]?=some (gD d t):=by simp[gD,qsy,qqH h]
theorem qqe {d:qsO}{t:Nat}(h:d.length≤t):gD d t=-1:=by simp[gD,qsy,qq4 h]
theorem qkG {d:qsO}{t u:Nat}{x:Int}(h:t<d.length):gD (d.set t x) u=if u=t then x else gD d u:=by
 unfold gD
 rw[qrR,qrz,qrR]
 by_cases hu:u=t
 ·subst hu;rw[if_pos rfl,if_pos h,if_pos rfl];rfl
 ·rw[if_neg (by omega),if_neg hu]
theorem qoh {d e:qsO}(hl:d.length=e.length)(h:∀ t,t<d.length→gD d t=gD e t):d=e:=by
 apply List.ext_getElem? ;intro t
 by_cases ht:t<d.length
 ·rw[qgR ht,qgR (by omega),h t ht]
 ·rw[qq4 (by omega),qq4 (by omega)]
structure FarOk (g:List (qsO)) (s:Nat) (d:qsO):Prop where
 len:d.length=g.length
 src:gD d s=0
 low:∀ t,-1≤gD d t
 up:∀ u t,Ld g u t→0≤gD d u→0≤gD d t∧gD d t≤gD d u+1
 fr:∀ t,t≠s→0≤gD d t→∃ u,Ld g u t∧gD d u+1=gD d t∧0≤gD d u
theorem FarOk.wk {g:List (qsO)}{s:Nat}{d:qsO}(h:FarOk g s d):∀ {k u t:Nat},Wk g k u t→0≤gD d u→0≤gD d t∧gD d t≤gD d u+k
 | 0,u,t,hw,h0=>by have hw:u=t:=hw;subst hw;omega
 | k+1,u,t,⟨v,h1,h2⟩,h0=>by
  have h3:=h.up u v h1 h0
  have h4:=h.wk h2 h3.1
  omega
theorem FarOk.le {g:List (qsO)}{s:Nat}{d:qsO}(h:FarOk g s d){k t:Nat}(hw:Wk g k s t):0≤gD d t∧gD d t≤k:=by
 have:=h.wk hw (by rw[h.src];exact qsg 0)
 rw[h.src] at this;omega
theorem FarOk.way {g:List (qsO)}{s:Nat}{d:qsO}(h:FarOk g s d):∀ (k t:Nat),gD d t=k→Wk g k s t
 | 0,t,hk=>by
  by_cases ht:t=s
  ·subst ht;rfl
  ·obtain ⟨u,_,h2,h3⟩:=h.fr t ht (by omega)
   omega
 | k+1,t,hk=>by
  by_cases ht:t=s
  ·subst ht;rw[h.src] at hk;omega
  ·obtain ⟨u,h1,h2,h3⟩:=h.fr t ht (by omega)
   exact qpR (h.way k u (by omega)) h1
theorem FarOk.way' {g:List (qsO)}{s:Nat}{d:qsO}(h:FarOk g s d){t:Nat}(h0:0≤gD d t):Wk g (gD d t).toNat s t:=h.way _ t (by omega)
theorem FarOk.uni {g:List (qsO)}{s:Nat}{d:qsO}{e:qsO}(h:FarOk g s d)(h':FarOk g s e):d=e:=by
 refine qoh (by rw[h.len,h'.len]) fun t _=>?_
 have l1:=h.low t
 have l2:=h'.low t
 by_cases h0:0≤gD d t
 ·have a:=h'.le (h.way' h0)
  have b:=h.le (h'.way' a.1)
  omega
 ·by_cases h1:0≤gD e t
  ·have b:=h.le (h'.way' h1)
   omega
  ·omega
theorem qlF:∀ {L M:List Nat},L.Nodup→(∀ x∈L,x∈M)→L.length≤M.length
 | [],_,_,_=>Nat.zero_le _
 | x::L,M,h,hs=>by
  have hx:=hs x (by simp)
  have h1:=qr8.1 h
  have:=qlF (L:=L) (M:=M.erase x) h1.2 fun y hy=>(List.mem_erase_of_ne (fun e:y=x=>h1.1 (e▸hy))).2 (hs y (by simp[hy]))
  rw[List.length_erase_of_mem hx] at this
  have:=List.length_pos_of_mem hx
  simp only[qrF];omega
theorem FarOk.levels {g:List (qsO)}{s:Nat}{d:qsO}(h:FarOk g s d):∀ (k t:Nat),gD d t=k→∀ j,j≤k→∃ v,gD d v=(j:Int)
 | 0,t,hk,j,hj=>⟨t,by omega⟩
 | k+1,t,hk,j,hj=>by
  by_cases hjk:j=k+1
  ·exact ⟨t,by omega⟩
  ·by_cases ht:t=s
   ·subst ht;rw[h.src] at hk;omega
   ·obtain ⟨u,h1,h2,h3⟩:=h.fr t ht (by omega)
    exact h.levels k u (by omega) j (by omega)
theorem FarOk.lt {g:List (qsO)}{s:Nat}{d:qsO}(h:FarOk g s d)(t:Nat)(ht:0<g.length):gD d t<g.length:=by
 by_cases h0:0≤gD d t
 ·obtain ⟨k,hk⟩:=qqP h0
  have:=qlF (L:=qrU (k+1)) (M:=d.map Int.toNat) List.nodup_range fun j hj=>by
   obtain ⟨v,hv⟩:=h.levels k t hk j (by have:=List.mem_range.1 hj;omega)
   have hvl:v<d.length:=by
    by_cases hvl:v<d.length
    ·exact hvl
    ·rw[qqe (by omega)] at hv;omega
   exact qrf.2 ⟨gD d v,qqE (qgR hvl),by rw[hv];rfl⟩
  rw[List.length_range,qre,h.len] at this
  omega
 ·omega
theorem qof {g:List (qsO)}{s:Nat}{d:qsO}(h:FarOk g s d){t:Nat}(ht:gD d t=0):t=s:=by
 by_cases hts:t=s
 ·exact hts
 ·obtain ⟨u,_,h2,h3⟩:=h.fr t hts (by omega)
  omega
def Ud (g:List (qsO))(u v:Nat):Prop:=Ld g u v∨Ld g v u
def Uw (g:List (qsO)):Nat→Nat→Nat→Prop
 | 0,s,t=>s=t
 | k+1,s,t=>∃ u,Ud g s u∧Uw g k u t
theorem qpO {g:List (qsO)}{u v:Nat}(h:Ud g u v):Ud g v u:=h.symm
theorem qo8 {g:List (qsO)}:∀ {j k s u t:Nat},Uw g j s u→Uw g k u t→Uw g (j+k) s t
 | 0,k,s,u,_,h1,h2=>by
  have h1:s=u:=h1
  subst h1
  rw[qrg];exact h2
 | j+1,k,_,_,_,⟨w,h0,h1⟩,h2=>by
  rw[show j+1+k=(j+k)+1 by omega]
  exact ⟨w,h0,qo8 h1 h2⟩
theorem qqp {g:List (qsO)}{s t:Nat}(h:Ud g s t):Uw g 1 s t:=⟨t,h,rfl⟩
theorem qnq {g:List (qsO)}:∀ {k s t:Nat},Uw g k s t→Uw g k t s
 | 0,s,t,h=>(show s=t from h).symm
 | _+1,_,_,⟨_,h0,h1⟩=>qo8 (qnq h1) (qqp (qpO h0))
structure PartOk (g:List (qsO)) (p:qsO):Prop where
 len:p.length=g.length
 le:∀ t,t<g.length→0≤gD p t∧gD p t≤t
 arc:∀ u v,Ld g u v→gD p u=gD p v
 con:∀ t,t<g.length→∃ k,Uw g k (gD p t).toNat t
theorem PartOk.same {g:List (qsO)}{p:qsO}(h:PartOk g p):∀ {k x y:Nat},Uw g k x y→gD p x=gD p y
 | 0,x,y,e=>by have e:x=y:=e;rw[e]
 | k+1,x,y,⟨u,h0,h1⟩=>by
  rw[← h.same h1]
  rcases h0 with h0 | h0
  ·exact h.arc _ _ h0
  ·exact (h.arc _ _ h0).symm
theorem PartOk.least {g:List (qsO)}{p:qsO}(h:PartOk g p){k x y:Nat}(hy:y<g.length)(hw:Uw g k x y):gD p x≤y:=by
 rw[h.same hw];exact (h.le y hy).2
theorem PartOk.uni {g:List (qsO)}{p q:qsO}(h:PartOk g p)(h':PartOk g q):p=q:=by
 have key:∀ {p q:qsO},PartOk g p→PartOk g q→∀ t,t<g.length→gD p t≤gD q t:=by
  intro p q h h' t ht
  obtain ⟨k,hk⟩:=h'.con t ht
  have a:=h'.le t ht
  have:=h.least (by omega) (qnq hk)
  omega
 refine qoh (by rw[h.len,h'.len]) fun t ht=>?_
 rw[h.len] at ht
 have a:=key h h' t ht
 have b:=key h' h t ht
 omega
def startF (n s:Nat):qsO:=(qqF n (-1)).set s 0
theorem qaO {n s:Nat}(hs:s<n)(t:Nat):gD (startF n s) t=if t=s then 0 else -1:=by
 unfold startF
 rw[qkG (by simpa using hs)]
 split
 ·rfl
 ·unfold gD
  rw[qrR,List.getElem?_replicate]
  split <;> rfl
structure Lb (g:List (qsO)) (A:List (Int×Int)) (out:qsO) (f:Nat→Nat):Prop where
 len:out.length=g.length
 par:∀ i,i<g.length→∃ m:Nat,gD out i=(m:Int)∧m≤i∧f m=f i∧(m=i→f i=i)
 le:∀ i,i<g.length→f i≤i
 idem:∀ i,i<g.length→f (f i)=f i
 arcs:∀ p∈A,f p.1.toNat=f p.2.toNat
 con:∀ i,i<g.length→∃ k,Uw g k (f i) i
theorem Lb.done {g:List (qsO)}{out:qsO}{f:Nat→Nat}(h:Lb g (af 0 g) out f)(hg:Gr g):PartOk g ((qrU g.length).map fun (i:Nat)=>(f i:Int)):=by
 have hgD:∀ {t},t<g.length→gD ((qrU g.length).map fun (i:Nat)=>(f i:Int)) t=(f t:Int):=fun ht=>by simp[gD,qsy,ht]
 refine ⟨by simp,fun t ht=>?_,fun u v huv=>?_,fun t ht=>?_⟩
 ·rw[hgD ht];have:=h.le t ht;omega
 ·have hin:=qoo hg huv
  rw[hgD hin.1,hgD hin.2]
  have:=h.arcs _ huv
  simp only[qqZ] at this
  rw[this]
 ·rw[hgD ht,qqZ];exact h.con t ht
theorem qnD {F n:Nat}(h:n≤100):qao F 1 (n:Int)=some (0,(n:Int)):=by
 have key:∀ n:Fin 101,qao 0 1 ((n.val:Nat):Int)=some (0,((n.val:Nat):Int)):=by decide +kernel
 exact key ⟨n,by omega⟩
theorem qpX {F n:Nat}{x:Int}(hn:n≤1000):∀ (k m:Nat),n<k+m→1≤m→m≤n→zL F k (qqF m x++qqF (n-m) 0,(m:Int))=some (qqF n x)
 | 0,m,h,_,hm=>by omega
 | k+1,m,h,h1,hm=>by
  show zK F (zL F k) (qqF m x++qqF (n-m) 0) (m:Int)=_
  unfold zK
  have hl:(qqF m x++qqF (n-m) (0:Int)).length=n:=by simp;omega
  by_cases hlt:m<n
  ·have e2:sub (qqF m x++qqF (n-m) (0:Int)) 0 (m:Int)=some (qqF m x):=by
    have:=qoB (l:=qqF m x++qqF (n-m) (0:Int)) (i:=0) (j:=m) (by omega) (by omega)
    rw[show ((0:Nat):Int)=0 from rfl] at this
    rw[this,qrE,qsn (by simp)]
   have e1:sub (qqF m x++qqF (n-m) (0:Int)) (m:Int) (n:Int)=some ((qqF m x++qqF (n-m) (0:Int)).drop m):=by
    rw[qoB (by omega) (by omega),qq3 (by omega)]
   rw[if_pos (by simp;omega),hl,e1]
   simp only[qqD]
   rw[e2]
   simp only[qqD]
   have hd:((qqF m x++qqF (n-m) (0:Int)).drop m).length=n-m:=by simp
   unfold lett
   rw[hd,qqZ,qq9,qol (by omega)]
   have e3:kS m (qqF m x++qqF (n-m) (0:Int)) (qqF m x)=qqF (m+min m (n-m)) x++qqF (n-(m+min m (n-m))) 0:=by
    unfold kS
    rw[hl,qsn (by simp),List.take_replicate,qq9,Nat.min_comm,List.drop_append,List.drop_replicate]
    simp only[List.drop_replicate,qq9]
    rw[show m-(m+m)=0 by omega,List.replicate_zero,qrc,← List.replicate_append_replicate]
    have e9:n-m-(m+m-m)=n-(m+min m (n-m)):=by omega
    rw[e9]
   rw[e3]
   exact qpX hn k (m+min m (n-m)) (by omega) (by omega) (by omega)
  ·rw[if_neg (by simp;omega)]
   unfold yL
   obtain rfl:m=n:=by omega
   simp
theorem qqi {F n:Nat}{x:Int}(hF:1000≤F)(hn:n≤100):ql F [x] (n:Int)=some (qqF n x):=by
 unfold ql
 have c1:iconv .u64 (([x]:qsO).length:Int)=1:=by show iconv .u64 1=1;decide
 have c2:iconv .u64 (n:Int)=(n:Int):=by
  have key:∀ n:Fin 101,iconv .u64 ((n.val:Nat):Int)=((n.val:Nat):Int):=by decide +kernel
  exact key ⟨n,by omega⟩
 have c3:iconv .i64 (n:Int)=(n:Int):=by
  have key:∀ n:Fin 101,iconv .i64 ((n.val:Nat):Int)=((n.val:Nat):Int):=by decide +kernel
  exact key ⟨n,by omega⟩
 rw[if_neg (by simp),c1,c2,qnD hn]
 simp only[qqD]
 rw[if_neg (by simp;omega),c3]
 have hmk:mk 17592186044416 (0:Int) (n:Int)=some (qqF n 0):=by
  unfold mk
  rw[if_pos (by omega),qqZ]
 rw[hmk]
 simp only[qqD]
 unfold lett
 by_cases h0:n=0
 ·subst h0
  obtain ⟨k,rfl⟩:=Nat.exists_eq_succ_of_ne_zero (show F≠0 by omega)
  show zK _ _ _ _=_
  unfold zK
  rw[if_neg (by simp[kS])]
  rfl
 ·have e:kS 0 (qqF n (0:Int)) [x]=qqF 1 x++qqF (n-1) 0:=by
   unfold kS
   obtain ⟨m,rfl⟩:=Nat.exists_eq_succ_of_ne_zero h0
   simp
  have e2:((min ([x]:qsO).length (qqF n (0:Int)).length:Nat):Int)=((1:Nat):Int):=by simp;omega
  rw[e,e2]
  exact qpX (by omega) F 1 (by omega) (by omega) (by omega)
def iz (q:List Nat):qsO:=q.map fun (u:Nat)=>(u:Int)
theorem qqh (q:List Nat):(iz q).length=q.length:=by simp[iz]
def unv (out:qsO):Nat:=out.countP fun x=>decide (x<0)
theorem qk1 {out:qsO}{t:Nat}{x:Int}(ht:t<out.length)(h0:gD out t<0)(hx:0≤x):unv (out.set t x)+1=unv out:=by
 unfold unv
 have hge:out[t]<0:=by
  have:=qgR ht
  rw[qqH ht] at this
  rw[qso this];exact h0
 have hpos:0<out.countP fun x=>decide (x<0):=List.countP_pos_iff.2 ⟨out[t],qrD ht,by simpa using hge⟩
 rw[List.countP_set ht,if_pos (by simpa using hge),if_neg (by simp;omega)]
 omega
structure BF (g:List (qsO)) (s:Nat) (out:qsO) (q:List Nat):Prop where
 len:out.length=g.length
 src:gD out s=0
 low:∀ t,-1≤gD out t
 qin:∀ u,u∈q→u<g.length∧0≤gD out u
 qpw:q.Pairwise fun a b=>gD out a≤gD out b
 top:∀ u,u∈q→∀ t,gD out t≤gD out u+1
 don:∀ u,0≤gD out u→u∉q→∀ t,Ld g u t→0≤gD out t∧gD out t≤gD out u+1
 fr:∀ t,t≠s→0≤gD out t→∃ u,Ld g u t∧gD out u+1=gD out t∧0≤gD out u
 hi:∀ t,gD out t+1+(unv out:Int)≤(g.length:Int)
theorem BF.done {g:List (qsO)}{s:Nat}{out:qsO}(h:BF g s out []):FarOk g s out :=
 ⟨h.len,h.src,h.low,fun u t hl h0=>h.don u h0 (by simp) t hl,h.fr⟩
theorem BF.pop {g:List (qsO)}{s a:Nat}{out:qsO}{q:List Nat}(h:BF g s out (a::q))(ha:∀ t,Ld g a t→0≤gD out t∧gD out t≤gD out a+1):BF g s out q where
 len:=h.len
 src:=h.src
 low:=h.low
 qin:=fun u hu=>h.qin u (by simp[hu])
 qpw:=(qrG.1 h.qpw).2
 top:=fun u hu=>h.top u (by simp[hu])
 don:=fun u h0 hu=>by
  by_cases e:u=a
  ·subst e;exact ha
  ·exact h.don u h0 (by simp[e,hu])
 fr:=h.fr
 hi:=h.hi
theorem BF.push {g:List (qsO)}{s a t:Nat}{out:qsO}{q:List Nat}(hg:Gr g)(h:BF g s out (a::q))(ht:gD out t<0)(hl:Ld g a t):BF g s (out.set t (gD out a+1)) (a::q++[t]):=by
 have htl:t<out.length:=by rw[h.len];exact (qoo hg hl).2
 have ha0:=(h.qin a (by simp)).2
 have hv:∀ x,gD (out.set t (gD out a+1)) x=if x=t then gD out a+1 else gD out x:=fun x=>qkG htl
 have hne:∀ x,0≤gD out x→x≠t:=fun x hx e=>by rw[e] at hx;omega
 have hold:∀ x,0≤gD out x→gD (out.set t (gD out a+1)) x=gD out x:=fun x hx=>by rw[hv,if_neg (hne x hx)]
 have hat:gD (out.set t (gD out a+1)) t=gD out a+1:=by rw[hv,if_pos rfl]
 have hmin:∀ u,u∈a::q→gD out a≤gD out u:=fun u hu=>by
  rcases qqK.1 hu with rfl | hu
  ·exact qsg _
  ·exact (qrG.1 h.qpw).1 u hu
 refine ⟨by rw[List.length_set];exact h.len,by rw[hold s (by rw[h.src];exact qsg 0)];exact h.src,fun x=>?_,fun u hu=>?_,?_,fun u hu x=>?_,fun u h0 hu x hx=>?_,fun x hxs h0=>?_,fun x=>?_⟩
 ·rw[hv];have:=h.low x;split <;> omega
 ·rcases qqG.1 hu with hu | hu
  ·rw[hold u (h.qin u hu).2];exact h.qin u hu
  ·rw[qqQ] at hu
   rw[hu,hat]
   exact ⟨(qoo hg hl).2,by omega⟩
 ·rw[qss]
  refine ⟨h.qpw.imp_of_mem fun {x y} hx hy hxy=>by rw[hold x (h.qin x hx).2,hold y (h.qin y hy).2];exact hxy,by simp,fun x hx y hy=>?_⟩
  rw[qqQ] at hy
  rw[hy,hat,hold x (h.qin x hx).2]
  exact h.top a (by simp) x
 ·rcases qqG.1 hu with hu | hu
  ·rw[hold u (h.qin u hu).2,hv]
   have:=hmin u hu
   split
   ·omega
   ·exact h.top u hu x
  ·rw[qqQ] at hu
   rw[hu,hat,hv]
   have:=h.top a (by simp) x
   split <;> omega
 ·have hut:u≠t:=fun e=>hu (by simp[e])
  have hu':u∉a::q:=fun hm=>hu (qqG.2 (.inl hm))
  rw[hv,if_neg hut] at h0
  have:=h.don u h0 hu' x hx
  rw[hold x this.1,hold u h0];exact this
 ·by_cases e:x=t
  ·exact ⟨a,by rw[e];exact hl,by rw[e,hat,hold a ha0],by rw[hold a ha0];exact ha0⟩
  ·rw[hv,if_neg e] at h0 ⊢
   obtain ⟨u,h1,h2,h3⟩:=h.fr x hxs h0
   exact ⟨u,h1,by rw[hold u h3];exact h2,by rw[hold u h3];exact h3⟩
 ·have:=qk1 (x:=gD out a+1) htl ht (by omega)
  have h1:=h.hi x
  have h2:=h.hi a
  rw[hv]
  split <;> omega
theorem qmr {F:Nat}{g:List (qsO)}{s a:Nat}{r:qsO}{rec48:(qsO×qsO)→Option (qsO)}(hg:Gr g)(hr:g[a]?=some r):∀ (k j:Nat) (out:qsO) (q:List Nat),r.length<k+j→j≤r.length→BF g s out (a::q)→q.length+unv out≤1000 →
  (∀ t:Nat,(t:Int)∈r.take j→0≤gD out t∧gD out t≤gD out a+1) →
  ∃ out' q',kv F rec48 (a:Int) r k (out,iz (a::q),(j:Int))=qbc F rec48 out' (iz (a::q'))∧BF g s out' (a::q')∧(∀ t:Nat,(t:Int)∈r→0≤gD out' t∧gD out' t≤gD out' a+1)∧q'.length+unv out'=q.length+unv out
 | 0,j,_,_,h,hj,_,_,_=>by omega
 | k+1,j,out,q,h,hj,hb,hm,hp=>by
  have hrl:=qhM hg (qqE hr)
  by_cases hlt:j<r.length
  ·have hx0:=(hg.2.1 r (qqE hr)).2 r[j] (qrD hlt)
   obtain ⟨t,ht⟩:=qqP hx0.1
   have htg:t<g.length:=by omega
   have htl:t<out.length:=by rw[hb.len];exact htg
   have hal:a<out.length:=by rw[hb.len];exact (hb.qin a (by simp)).1
   have hld:Ld g a t:=qop.2 ⟨r,hr,by rw[← ht];exact qrD hlt⟩
   have ha0:=(hb.qin a (by simp)).2
   have hsn:r.take (j+1)=r.take j++[(t:Int)]:=by rw[qcU hlt,ht]
   have hstep:kv F rec48 (a:Int) r (k+1) (out,iz (a::q),(j:Int))=vw F rec48 (a:Int) r (kv F rec48 (a:Int) r k) out (iz (a::q)) (j:Int):=rfl
   rw[hstep]
   unfold vw
   rw[if_pos (by simpa using hlt),kY,qqH hlt,ht]
   simp only[qqD]
   rw[kY,qgR htl]
   simp only[qqD]
   by_cases hneg:gD out t<0
   ·rw[if_pos (by simpa using hneg),kY,qgR hal]
    simp only[qqD]
    have hglen:g.length≤100:=hg.1
    have htop:=hb.top a (by simp) a
    have hbig:=hb.hi a
    rw[qdn (by rw[qqh];simp;omega)]
    unfold lett
    simp only[qqD]
    unfold jK
    rw[qar (by omega),qcn (by omega) (by omega),qqZ]
    have hb':=hb.push hg hneg hld
    have hz:iz (a::q)++[(t:Int)]=iz (a::(q++[t])):=by simp[iz]
    have hu:=qk1 (x:=gD out a+1) htl hneg (by omega)
    have hat:gD (out.set t (gD out a+1)) a=gD out a:=by rw[qkG htl,if_neg (fun e=>by rw[← e] at hneg;omega)]
    rw[hz]
    obtain ⟨out',q',e1,e2,e3,e4⟩:=qmr (rec48:=rec48) hg hr k (j+1) (out.set t (gD out a+1)) (q++[t]) (by omega) (by omega) hb' (by simp;omega) (fun x hx=>by
     rw[hsn] at hx
     rw[hat,qkG htl]
     rcases qqG.1 hx with hx | hx
     ·have:=hp x hx
      split
      ·omega
      ·exact this
     ·simp only[qqQ] at hx
      rw[if_pos (by omega)];omega)
    refine ⟨out',q',e1,e2,e3,?_⟩
    rw[e4];simp;omega
   ·rw[if_neg (by simpa using hneg)]
    unfold jK
    rw[qar (by omega)]
    exact qmr hg hr k (j+1) out q (by omega) (by omega) hb hm (fun x hx=>by
     rw[hsn] at hx
     rcases qqG.1 hx with hx | hx
     ·exact hp x hx
     ·simp only[qqQ] at hx
      obtain rfl:x=t:=by omega
      exact ⟨by omega,hb.top a (by simp) x⟩)
  ·have hstep:kv F rec48 (a:Int) r (k+1) (out,iz (a::q),(j:Int))=vw F rec48 (a:Int) r (kv F rec48 (a:Int) r k) out (iz (a::q)) (j:Int):=rfl
   refine ⟨out,q,?_,hb,fun t ht=>hp t (by rw[qq3 (by omega)];exact ht),rfl⟩
   rw[hstep]
   unfold vw
   rw[if_neg (by simpa using hlt)]
theorem qna {F:Nat}{g:List (qsO)}{s:Nat}(hF:1000≤F)(hg:Gr g):∀ (k:Nat) (out:qsO) (q:List Nat),q.length+unv out<k→q.length+unv out≤1000→BF g s out q→∃ d,zM F g k (out,iz q)=some d∧FarOk g s d
 | 0,_,_,h,_,_=>by omega
 | k+1,out,q,h,hm,hb=>by
  have hstep:zM F g (k+1) (out,iz q)=qbb F g (zM F g k) out (iz q):=rfl
  rw[hstep]
  unfold qbb
  cases q with
  | nil =>
   rw[if_neg (by simp[iz])]
   exact ⟨out,rfl,hb.done⟩
  | cons a q =>
   have hal:=(hb.qin a (by simp)).1
   have hra:g[a]?=some g[a]:=qqH hal
   have hrl:=qhM hg (qrD hal)
   rw[if_pos (by simp[iz])]
   have e0:idx (iz (a::q)) 0=some (a:Int):=rfl
   rw[e0]
   simp only[qqD]
   rw[kY,hra]
   simp only[qqD]
   obtain ⟨out',q',e1,e2,e3,e4⟩:=qmr (F:=F) (rec48:=zM F g k) hg hra F 0 out q (by omega) (by omega) hb (by simp only[qrF] at hm;omega) (fun t ht=>by simp at ht)
   rw[show ((0:Nat):Int)=0 from rfl] at e1
   rw[e1]
   unfold qbc
   have es:sub (iz (a::q')) 1 ((iz (a::q')).length:Int)=some (iz q'):=by
    have:=qoB (l:=iz (a::q')) (i:=1) (j:=(iz (a::q')).length) (by simp[iz]) (qqY _)
    rw[show ((1:Nat):Int)=1 from rfl] at this
    rw[this,List.take_length];rfl
   rw[es]
   simp only[qqD]
   have hpop:=e2.pop (fun t ht=>by
    obtain ⟨r,hr,hm⟩:=qop.1 ht
    rw[hra] at hr
    obtain rfl:=qso hr
    exact e3 t hm)
   simp only[qrF] at h hm
   exact qna hF hg k out' q' (by omega) (by omega) hpop
theorem qpP (n:Nat):unv (qqF n (-1))=n:=by
 unfold unv
 rw[List.countP_replicate];simp
theorem qoe {F:Nat}{g:List (qsO)}{s:Nat}(hF:1000≤F)(hg:Gr g)(hs:s<g.length):∃ d,qaA F g (s:Int)=some d∧FarOk g s d:=by
 have hgl:=hg.1
 have hsr:s<(qqF g.length (-1:Int)).length:=by simpa using hs
 unfold qaA
 rw[qqi hF hgl]
 simp only[qqD]
 rw[kY,qqH hsr]
 simp only[qqD]
 unfold lett
 rw[qqZ]
 have hst:(qqF g.length (-1:Int)).set s 0=startF g.length s:=rfl
 have hu:unv (startF g.length s)+1=g.length:=by
  have h9:gD (qqF g.length (-1:Int)) s<0:=by
   unfold gD
   rw[qrR,List.getElem?_replicate]
   split <;> simp
  have:=qk1 (out:=qqF g.length (-1)) (x:=0) hsr h9 (qsg 0)
  rw[qpP] at this
  exact this
 rw[hst]
 have hone:([(s:Int)]:qsO)=iz [s]:=rfl
 rw[hone]
 refine qna hF hg F _ [s] (by simp;omega) (by simp;omega) ⟨by simp[startF],by rw[qaO hs,if_pos rfl],fun t=>by rw[qaO hs];split <;> omega,fun u hu=>?_,by simp,fun u hu t=>?_,fun u h0 hu t ht=>?_,fun t hts h0=>?_,fun t=>?_⟩
 ·simp only[qqQ] at hu
  subst hu
  exact ⟨hs,by rw[qaO hs,if_pos rfl];exact qsg 0⟩
 ·simp only[qqQ] at hu
  subst hu
  rw[qaO hs,qaO hs,if_pos rfl]
  split <;> omega
 ·rw[qaO hs] at h0
  split at h0
  ·rename_i e;exact absurd (by simp[e]) hu
  ·omega
 ·rw[qaO hs,if_neg hts] at h0;omega
 ·rw[qaO hs]
  split <;> omega
def farL (g:List (qsO))(s:Nat):qsO:=(qaA 1000 g (s:Int)).getD []
theorem qkE {g:List (qsO)}{s:Nat}(hg:Gr g)(hs:s<g.length):FarOk g s (farL g s):=by
 obtain ⟨d,h1,h2⟩:=qoe (F:=1000) (qqY _) hg hs
 unfold farL
 rw[h1];exact h2
theorem qqd {F:Nat}{g:List (qsO)}{s:Nat}(hF:1000≤F)(hg:Gr g)(hs:s<g.length):qaA F g (s:Int)=some (farL g s):=by
 obtain ⟨d,h1,h2⟩:=qoe hF hg hs
 rw[h1,h2.uni (qkE hg hs)]
def wout (g:List (qsO))(ns:qsO):Bool:=ns.any fun n=>decide (n<0) || decide ((g.length:Int)≤n)
def wchk (g:List (qsO))(ns:qsO):Int:=if gchk g≠0 then gchk g else if wout g ns then 3 else 0
theorem ql6 {F:Nat}{g:List (qsO)}{l:qsO}(hm:l.length≤1000000):∀ (k i:Nat),l.length<k+i→i≤l.length→∃ z,qT F l g k (i:Int)=some z∧decide (0≤z)=wout g (l.drop i)
 | 0,_,_,_=>by omega
 | k+1,i,h,hi=>by
  show ∃ z,zm F l g (qT F l g k) (i:Int)=some z∧_
  unfold zm
  by_cases hlt:i<l.length
  ·rw[if_pos (by simp;omega),kY,qqH hlt,qrq hlt]
   simp only[qqD]
   unfold qdm
   simp only[qqD]
   unfold wout
   rw[List.any_cons]
   by_cases hc:(decide (l[i]<0) || decide ((g.length:Int)≤l[i]))=true
   ·rw[if_pos hc,hc]
    exact ⟨_,rfl,by simp⟩
   ·rw[if_neg hc,qar (by omega)]
    rw[Bool.not_eq_true] at hc
    rw[hc,Bool.false_or]
    exact ql6 hm k (i+1) (by omega) (by omega)
  ·rw[if_neg (by simp;omega),qq5 (by omega)]
   exact ⟨-1,rfl,rfl⟩
theorem qn4 {F:Nat}{g:List (qsO)}{ns:qsO}(hF:1000≤F)(hn:ns.length≤100):qba F g ns=some (wchk g ns):=by
 unfold qba wchk
 rw[qec hF]
 simp only[qqD]
 by_cases h:gchk g=0
 ·rw[if_neg (by simp[h]),if_neg (by simp[h])]
  unfold zQ z6
  obtain ⟨z,e1,e2⟩:=ql6 (F:=F) (g:=g) (l:=ns) (by omega) F 0 (by omega) (by omega)
  have e1':qT F ns g F 0=some z:=e1
  rw[qrE] at e2
  rw[e1']
  simp only[qqD]
  rw[e2]
  split <;> rfl
 ·rw[if_pos (by simpa using h),if_pos h]
theorem wchk1 {g:List (qsO)}{s:Int}(h:wchk g [s]=0):Gr g∧∃ n:Nat,s=(n:Int)∧n<g.length:=by
 unfold wchk at h
 by_cases h1:gchk g=0
 ·rw[if_neg (by simp[h1])] at h
  by_cases h2:wout g [s]=true
  ·rw[if_pos h2] at h;simp at h
  ·simp[wout] at h2
   obtain ⟨n,hn⟩:=qqP (show 0≤s by omega)
   exact ⟨qfT.1 h1,n,hn,by omega⟩
 ·rw[if_pos h1] at h;exact absurd h h1
theorem qo9 {g:List (qsO)}{s:Nat}(hg:Gr g)(hs:s<g.length):wchk g [(s:Int)]=0:=by
 unfold wchk
 rw[if_neg (by simp[qfT.2 hg]),if_neg]
 simp[wout];omega
def farM (g:List (qsO))(s:Int):qsO×Int:=if wchk g [s]≠0 then ([],wchk g [s]) else (farL g s.toNat,0)
theorem qp2 {F:Nat}{g:List (qsO)}{s:Int}(hF:1000≤F):qeI F g s=some (farM g s):=by
 unfold qeI farM
 rw[qn4 hF (by simp)]
 simp only[qqD]
 by_cases h:wchk g [s]=0
 ·obtain ⟨hg,n,rfl,hn⟩:=wchk1 h
  rw[if_neg (by simp[h]),if_neg (by simp[h]),qqd hF hg hn,qqZ]
  rfl
 ·rw[if_pos (by simpa using h),if_pos h]
theorem qhy {F:Nat}{xs:List (qsO)}(hm:xs.length≤1000000)(hr:∀ r∈xs,r.length≤1000000∧r.length<F):∀ (k i:Nat),xs.length<k+i→i≤xs.length→yE F xs xs k (i:Int)=some true
 | 0,_,_,_=>by omega
 | k+1,i,h,hi=>by
  show jQ F xs xs (yE F xs xs k) (i:Int)=_
  unfold jQ
  by_cases hlt:i<xs.length
  ·have:=hr _ (qrD hlt)
   rw[if_pos (by simp;omega),kY,qqH hlt]
   simp only[qqD]
   rw[qmB this.2 this.1]
   simp only[qqD]
   rw[if_neg (by simp),qar (by omega)]
   exact qhy hm hr k (i+1) (by omega) (by omega)
  ·rw[if_neg (by simp;omega)]
   rfl
theorem qmC {F:Nat}{xs:List (qsO)}(hF:xs.length<F)(hm:xs.length≤1000000)(hr:∀ r∈xs,r.length≤1000000∧r.length<F):qbS F xs xs=some true:=by
 unfold qbS
 rw[if_neg (by simp)]
 exact qhy hm hr F 0 (by omega) (by omega)
def Sm (g:List (qsO)):Prop:=g.length≤100∧∀ r∈g,r.length≤1200
theorem qmA {F:Nat}{g:List (qsO)}(hF:2000≤F)(h:Sm g):qbR F g g=some true:=by
 unfold qbR
 have:=h.1
 rw[qmC (by omega) (by omega) (fun r hr=>by have:=h.2 r hr;omega)]
 rfl
theorem qqj:Sm []:=⟨by simp,fun r hr=>by simp at hr⟩
theorem qpY {g:List (qsO)}(h:Gr g):Sm g:=⟨h.1,fun r hr=>by have:=qhM h hr;omega⟩
theorem qnc {n:Int}:∀ {A B seen:List (Int×Int)},ofE n seen A=0→ofE n seen (A++B)=ofE n (seen++A) B
 | [],B,seen,_=>by simp
 | p::A,B,seen,h=>by
  rw[qhv] at h
  rw[qrw,qhv]
  by_cases h1:p.1<0∨n≤p.1∨p.2<0∨n≤p.2
  ·rw[if_pos h1] at h;exact absurd h (by decide)
  ·rw[if_neg h1] at h ⊢
   by_cases h2:p∈seen
   ·rw[if_pos h2] at h;exact absurd h (by decide)
   ·rw[if_neg h2] at h ⊢
    rw[qnc h,List.append_assoc];rfl
def By (s:qsO):Prop:=∀ x∈s,0≤x∧x<256
def cut8 (c:UInt8):List UInt8→List (List UInt8)
 | []=>[[]]
 | x::t=>if x=c then []::cut8 c t else match cut8 c t with | []=>[[x]] | h::r=>(x::h)::r
theorem qms (t:List UInt8)(c:UInt8):-1≤Lib.index t [c]:=Lib.index_ge t [c]
theorem qh7 (x:UInt8)(t:List UInt8)(c:UInt8):Lib.index (x::t) [c]=if x=c then 0 else if Lib.index t [c]=-1 then -1 else Lib.index t [c]+1:=by
 rw[show Lib.index (x::t) [c]=if [c].isPrefixOf (x::t) then 0 else if Lib.index t [c] == -1 then -1 else Lib.index t [c]+1 from rfl]
 by_cases h:x=c
 ·subst h
  simp[List.isPrefixOf]
 ·have h2:([c].isPrefixOf (x::t))=false:=by
   simp only[List.isPrefixOf,qsh,beq_eq_false_iff_ne]
   exact fun e=>h e.symm
  rw[if_neg (by rw[h2];simp),if_neg h]
  simp
theorem qi3 (c:UInt8)(k:Nat)(s:List UInt8):Lib.splitK [c] 0 (k+1) s=if Lib.index s [c] == -1 then [s] else s.take ((Lib.index s [c]).toNat+0)::Lib.splitK [c] 0 k (s.drop ((Lib.index s [c]).toNat+1)):=rfl
theorem qi2 (c:UInt8):∀ (L:List UInt8),Lib.splitK [c] 0 (L.count c) L=cut8 c L
 | []=>rfl
 | x::t=>by
  have ih:=qi2 c t
  unfold cut8
  by_cases h:x=c
  ·subst h
   rw[List.count_cons_self,if_pos rfl,← ih]
   rw[qi3,qh7,if_pos rfl]
   simp
  ·rw[if_neg h,← ih,List.count_cons_of_ne (fun e=>h e)]
   cases hk:t.count c with
   | zero=>rfl
   | succ k =>
    rw[qi3,qi3,qh7,if_neg h]
    have hge:=qms t c
    by_cases hi:Lib.index t [c]=-1
    ·simp[hi]
    ·have e1:∃ i:Nat,Lib.index t [c]=i:=⟨(Lib.index t [c]).toNat,by omega⟩
     obtain ⟨i,hi2⟩:=e1
     rw[hi2]
     have n1:¬ ((i:Int)=-1):=by omega
     have n2:¬ ((i:Int)+1=-1):=by omega
     have e2:((i:Int)+1).toNat=i+1:=by omega
     simp[n1,n2,e2]
def cutI (c:Int):qsO→List (qsO)
 | []=>[[]]
 | x::t=>if x=c then []::cutI c t else match cutI c t with | []=>[[x]] | h::r=>(x::h)::r
theorem qjJ (c x:Int)(t:qsO):cutI c (x::t)=if x=c then []::cutI c t else match cutI c t with | []=>[[x]] | h::r=>(x::h)::r:=rfl
def u8 (n:Int):UInt8:=UInt8.ofNat n.toNat
theorem qqo {a b:Int}(ha:0≤a∧a<256)(hb:0≤b∧b<256):u8 a=u8 b↔a=b:=by
 constructor
 ·intro h
  have h1:b8 a=b8 b:=by
   show ((u8 a).toNat:Int)=((u8 b).toNat:Int)
   rw[h]
  rw[qm3 ha.1 ha.2,qm3 hb.1 hb.2] at h1
  exact h1
 ·rintro rfl;rfl
def toI (l:List UInt8):qsO:=l.map fun u=>(u.toNat:Int)
theorem qoa {c:Int}(hc:0≤c∧c<256):∀ (s:qsO),By s→(cut8 (u8 c) (s.map u8)).map toI=cutI c s
 | [],_=>rfl
 | x::t,h=>by
  have hx:=h x (qqX ..)
  have ih:=qoa hc t fun y hy=>h y (List.mem_cons_of_mem _ hy)
  have hb:((u8 x).toNat:Int)=x:=qm3 hx.1 hx.2
  rw[qri]
  unfold cut8 cutI
  by_cases e:x=c
  ·subst e
   rw[if_pos rfl,if_pos rfl,qri,ih]
   rfl
  ·rw[if_neg (fun e2=>e ((qqo hx hc).1 e2)),if_neg e,← ih]
   cases cut8 (u8 c) (t.map u8) with
   | nil=>show [toI [u8 x]]=[[x]];simp[toI,hb]
   | cons a r =>
    show toI (u8 x::a)::r.map toI=(x::toI a)::r.map toI
    rw[show toI (u8 x::a)=((u8 x).toNat:Int)::toI a from rfl,hb]
theorem qnK {c:Int}{s:qsO}(hc:0≤c∧c<256)(hs:By s)(hl:s.length<4294967281):splitM s [c]=some (cutI c s):=by
 unfold splitM
 simp only[hl,if_true]
 congr 1
 have h1:=Lib.splitB_data (bstr [c]) 0 (Lib.countB (bstr s) (bstr [c])) (bstr s)
 have h2:Lib.countB (bstr s) (bstr [c])=(s.map u8).count (u8 c):=by
  show Lib.count (bstr s).data.toList (bstr [c]).data.toList=_
  rw[vx,vx]
  exact Lib.count_one _ _
 rw[h2] at h1 ⊢
 rw[vx,vx] at h1
 have h3:Lib.splitK [u8 c] 0 ((s.map u8).count (u8 c)) (s.map u8)=cut8 (u8 c) (s.map u8):=qi2 _ _
 have h4:([c].map fun n=>UInt8.ofNat n.toNat)=[u8 c]:=rfl
 have h5:(s.map fun n=>UInt8.ofNat n.toNat)=s.map u8:=rfl
 rw[h4,h5,h3] at h1
 rw[← qoa hc s hs,← h1,List.map_map]
 rfl
def dcI (n:Int):qsO:=if n<10 then [48+n] else if n<100 then [48+n/10,48+n%10] else [48+n/100,48+n/10%10,48+n%10]
theorem dg1 {u:Nat}(h:u<10):Lib.decDigits u=[UInt8.ofNat (48+u)]:=by
 unfold Lib.decDigits
 rw[dif_pos h]
theorem dg2 {u:Nat}(h:¬ u<10):Lib.decDigits u=Lib.decDigits (u/10)++[UInt8.ofNat (48+u%10)]:=by
 rw[Lib.decDigits,dif_neg h]
theorem ql5 {u:Nat}(h:u<10):toI [UInt8.ofNat (48+u)]=[48+(u:Int)]:=by
 have:((48+u)%256:Nat)=48+u:=by omega
 simp[toI,this]
theorem qnp (a b:List UInt8):toI (a++b)=toI a++toI b:=by simp[toI]
theorem qqx {n:Int}(h:0≤n∧n<1000):toI (Lib.decDigits n.toNat)=dcI n:=by
 unfold dcI
 by_cases h1:n<10
 ·rw[if_pos h1,dg1 (by omega),ql5 (by omega)]
  congr 1;omega
 ·rw[if_neg h1,dg2 (by omega),qnp,ql5 (by omega)]
  by_cases h2:n<100
  ·rw[if_pos h2,dg1 (by omega),ql5 (by omega)]
   simp only[qrw,qrc,qsq,and_true]
   omega
  ·rw[if_neg h2,dg2 (by omega),qnp,ql5 (by omega),dg1 (by omega),ql5 (by omega)]
   simp only[qrw,qrc,qsq,and_true]
   omega
theorem quo10 {n:Int}(h:0≤n∧n<1000):iquo .i64 n 10=n/10:=by
 have h1:n.tdiv 10=n/10:=Int.tdiv_eq_ediv_of_nonneg h.1
 unfold iquo
 rw[h1]
 exact ql7 (by omega) (by omega)
theorem rem10 {n:Int}(h:0≤n∧n<1000):irem n 10=n%10:=by
 unfold irem
 exact Int.tmod_eq_emod_of_nonneg h.1
theorem qmp {F:Nat}{n:Int}{acc:qsO}{rec:(Int×qsO)→Option (qsO)}(h:0≤n∧n<1000)(ha:acc.length≤10):yG F rec n acc=if n/10=0 then some ((48+n%10)::acc) else rec (n/10,(48+n%10)::acc):=by
 unfold yG
 rw[quo10 h,rem10 h,qcn (by omega) (by omega),show iconv .u8 (48+n%10)=48+n%10 from qpS (by omega) (by omega),qdn (by simp;omega)]
 simp only[qqD,qrw,qrc,beq_iff_eq]
theorem qm7 {F:Nat}{n:Int}(hF:10≤F)(h:0≤n∧n<1000):qb8 F n=some (dcI n):=by
 unfold qb8
 obtain ⟨k,rfl⟩:∃ k,F=k+3:=⟨F-3,by omega⟩
 show yG (k+3) (yH (k+3) (k+2)) n []=_
 rw[qmp h (by simp)]
 unfold dcI
 by_cases h1:n<10
 ·rw[if_pos (by omega),if_pos h1]
  congr 2;omega
 ·rw[if_neg (by omega),if_neg h1]
  show yG (k+3) (yH (k+3) (k+1)) (n/10) _=_
  rw[qmp (by omega) (by simp)]
  by_cases h2:n<100
  ·rw[if_pos (by omega),if_pos h2]
   congr 2;omega
  ·rw[if_neg (by omega),if_neg h2]
   show yG (k+3) (yH (k+3) k) (n/10/10) _=_
   rw[qmp (by omega) (by simp),if_pos (by omega)]
   congr 2;omega
theorem qqb:∀ n:Fin 1000,atoiE (dcI (n.val:Int))=some ((n.val:Int),true):=by decide +kernel
theorem qpj {n:Int}(h:0≤n∧n<1000):atoiE (dcI n)=some (n,true):=by
 obtain ⟨k,rfl⟩:=qqP h.1
 exact qqb ⟨k,by omega⟩
theorem qm8 {n:Int}(h:0≤n∧n<1000):itoaC n=some (dcI n):=by
 unfold itoaC
 rw[if_pos (by omega),← qqx h]
 unfold Lib.itoa
 rw[if_neg (by omega)]
 rfl
theorem qiK {n:Int}(_h:0≤n∧n<1000):0<(dcI n).length∧(dcI n).length≤3:=by
 unfold dcI
 split
 ·simp
 ·split <;> simp
theorem qoc {n x:Int}(h:0≤n∧n<1000)(hx:x∈dcI n):48≤x∧x≤57:=by
 unfold dcI at hx
 split at hx
 ·simp at hx;omega
 ·split at hx <;> simp at hx <;> omega
theorem qpW {n:Int}(h:0≤n∧n<1000):By (dcI n):=fun x hx=>by have:=qoc h hx;omega
theorem qpV {n:Int}(h:0≤n∧n<1000):(32:Int)∉dcI n:=fun hx=>by have:=qoc h hx;omega
theorem qjK {w s:qsO}(h:(32:Int)∉w):cutI 32 (w++32::s)=w::cutI 32 s:=by
 induction w with
 | nil=>rfl
 | cons x t ih =>
  simp only[qqK,not_or] at h
  rw[qrw,qjJ,if_neg (fun e=>h.1 e.symm),ih h.2]
theorem qob {w:qsO}(h:(32:Int)∉w):cutI 32 w=[w]:=by
 induction w with
 | nil=>rfl
 | cons x t ih =>
  simp only[qqK,not_or] at h
  rw[qjJ,if_neg (fun e=>h.1 e.symm),ih h.2]
def ws2 (k:qsO)(a b:Int):qsO:=k++([32]++dcI a++[32]++dcI b)
theorem qhY {k:qsO}{a b:Int}(hk:By k)(hkl:k.length≤10)(hb:(32:Int)∉k)(ha:0≤a∧a<1000)(hb':0≤b∧b<1000):splitM (ws2 k a b) [32]=some [k,dcI a,dcI b]:=by
 have h1:=qiK ha
 have h2:=qiK hb'
 rw[qnK (by omega) ?_ (by simp[ws2];omega)]
 ·have e:ws2 k a b=k++32::(dcI a++32::dcI b):=by simp[ws2]
  rw[e,qjK hb,qjK (qpV ha),qob (qpV hb')]
 ·intro x hx
  simp only[ws2,qqG,qqQ] at hx
  rcases hx with h | ((rfl | h) | rfl) | h
  ·exact hk x h
  ·omega
  ·exact qpW ha x h
  ·omega
  ·exact qpW hb' x h
theorem qkA (x:qsO):(bstr x == bstr x)=true:=by rw[← qml];simp
theorem qj5 {F k:Nat}{N:Int}{ws:List (qsO)}{ns:qsO}{i:Nat}{n:Int}(hn:0≤n∧n<1000)(hw:ws[i]?=some (dcI n))(hi:i≤10)(hl:ns.length≤10) :
  zk F N ws (k+1) ((i:Int),ns)=zk F N ws k (((i+1:Nat):Int),ns++[n]):=by
 show kq F N ws (zk F N ws k) (i:Int) ns=_
 unfold kq
 have hlt:=(qqI.1 hw).1
 rw[if_pos (decide_eq_true (by omega)),kY,hw]
 simp only[qqD]
 rw[qpj hn]
 simp only[qqD]
 have h3:=qiK hn
 rw[if_neg (by simp;omega),qm8 hn]
 simp only[qqD]
 rw[qkA]
 unfold yN
 rw[if_neg (by simp),qdn (by simp;omega)]
 simp only[qqD]
 rw[qcn (by omega) (by omega)]
 congr 1
theorem qo7 {F k:Nat}{N:Int}{ws:List (qsO)}{ns:qsO}:zk F N ws (k+1) ((ws.length:Int),ns)=some (((ws.length:Int) == N),ns):=by
 show kq F N ws (zk F N ws k) (ws.length:Int) ns=_
 unfold kq
 rw[if_neg (by simp)]
 rfl
theorem take2 {F:Nat}{g:List (qsO)}{B l K a b:Int}{s:qsO}(hF:10≤F)(ha:0≤a∧a<1000)(hb:0≤b∧b<1000):q8 F g B l K [] s 2 [dcI a,dcI b]=some (true,[a,b]):=by
 unfold q8
 obtain ⟨k,rfl⟩:∃ k,F=k+3:=⟨F-3,by omega⟩
 have h1:=qj5 (F:=k+3) (k:=k+2) (N:=2) (ws:=[dcI a,dcI b]) (ns:=[]) (i:=0) ha rfl (by omega) (by simp)
 have h2:=qj5 (F:=k+3) (k:=k+1) (N:=2) (ws:=[dcI a,dcI b]) (ns:=[a]) (i:=1) hb rfl (by omega) (by simp)
 have h3:=qo7 (F:=k+3) (k:=k) (N:=2) (ws:=[dcI a,dcI b]) (ns:=[a,b])
 exact h1.trans (h2.trans h3)
theorem qqa (B l K:Int):∃ e:Int,(∀ F,yC F B l K=some e)∧(e=0∨e=3):=by
 unfold yC
 split
 ·exact ⟨3,fun _=>rfl,.inr rfl⟩
 ·exact ⟨0,fun _=>rfl,.inl rfl⟩
theorem qqC {n:Int}:∀ g:List (qsO),gE n g=0∨gE n g=3∨gE n g=4:=by
 intro g
 have hr:∀ (l:qsO) (last:Int),rowE n last l=0∨rowE n last l=3∨rowE n last l=4:=by
  intro l
  induction l with
  | nil=>exact fun _=>.inl rfl
  | cons x t ih =>
   intro last
   unfold rowE
   split
   ·exact .inr (.inl rfl)
   ·split
    ·exact .inr (.inr rfl)
    ·exact ih x
 induction g with
 | nil=>exact .inl rfl
 | cons r g ih =>
  unfold gE
  split
  ·exact hr r (-1)
  ·exact ih
theorem qqf (g:List (qsO)):gchk g≠6:=by
 have:=qqC (n:=g.length) g
 unfold gchk
 split
 ·decide
 ·split
  ·omega
  ·split <;> decide
theorem qm9 {F:Nat}{g:List (qsO)}{B l K:Int}(hg:Gr g):∀ (k i:Nat) (T:List (qsO)),g.length<k+i→i≤g.length→T.length=g.length→T.take i=g.take i →
  vW F g B l K k ((i:Int),T)=some (g,B,l,K)
 | 0,i,_,h,hi,_,_=>by omega
 | k+1,i,T,h,hi,hT,ht=>by
  show qbT F g B l K (vW F g B l K k) (i:Int) T=_
  unfold qbT
  have hl:=hg.1
  by_cases hlt:i<g.length
  ·rw[if_pos (decide_eq_true (by omega)),kY,qqH hlt]
   simp only[qqD]
   rw[kY,qqH (by omega)]
   simp only[qqD]
   have hr:=qhM hg (qrD hlt)
   unfold yB lett
   rw[qdn (by simp;omega)]
   simp only[qqD,qrc]
   rw[qcn (by omega) (by omega)]
   refine qm9 hg k (i+1) _ (by omega) (by omega) (by simp[hT]) ?_
   rw[qqZ,qcU (by simp;omega),qcU hlt,List.take_set_of_le (qqY i),ht]
   simp
  ·rw[if_neg (by simp;omega)]
   have e:i=g.length:=by omega
   subst e
   rw[qq3 (by omega),qq3 (qqY _)] at ht
   subst ht
   rfl
theorem qiM {F:Nat}{g:List (qsO)}{B l K:Int}(hF:200≤F)(hg:Gr g):qc1 F g B l K=some (g,B,l,K):=by
 unfold qc1 qbU
 have:=hg.1
 rw[qor (by omega)]
 simp only[qqD]
 exact qm9 hg F 0 _ (by omega) (by omega) (qhD _ _) rfl
theorem qiL {F:Nat}{g:List (qsO)}{B l K e:Int}(hF:1000≤F)(he:∀ F,yC F B l K=some e):ya F g B l K=some (if gchk g≠0 then gchk g else e):=by
 unfold ya
 rw[qec hF]
 simp only[qqD]
 by_cases h:gchk g=0
 ·rw[if_neg (by simp[h]),if_neg (by simp[h]),he];rfl
 ·rw[if_pos (by simpa using h),if_pos h]
theorem qco {α:Type}{a b:α}:(idx [a,b] (0:Int))=some a∧(idx [a,b] (1:Int))=some b:=⟨rfl,rfl⟩
theorem qmm (n:Nat):qbQ (n+400)=some true:=by kernel_rfl
theorem qlr {F:Nat}{g:List (qsO)}{B l K:Int}{s:qsO}(h:ya F g B l K=some 0):vV F g B l K s=yh F g B l K s:=by
 unfold vV
 rw[h]
 simp only[qqD]
 rw[if_neg (by simp)]
 cases yh F g B l K s <;> rfl
theorem qqc {F:Nat}{g:List (qsO)}{B l K e:Int}{s:qsO}(h:ya F g B l K=some e)(he:e≠0):vV F g B l K s=some ([],0,0,0,[],e):=by
 unfold vV
 rw[h]
 simp only[qqD]
 rw[if_pos (by simpa using he)]
theorem qkP {α:Type}{x y z:α}:sub [x,y,z] 1 (([x,y,z]:List α).length:Int)=some [y,z]:=rfl
theorem qhO {F:Nat}{g:List (qsO)}{B l K:Int}{n s:qsO}:vI F g B l K n s=some ():=rfl
def dkE (e:Int)(g:List (qsO))(B l K:Int)(s:qsO):List (qsO)×Int×Int×Int×qsO×Int :=
 if e≠0 then ([],0,0,0,[],e) else (g,B,l,K,s,0)
theorem qmw {F:Nat}{e:Int}{g:List (qsO)}{B l K:Int}{n s:qsO}:qK F e g B l K n s=some (dkE e g B l K s):=by
 unfold qK dkE
 by_cases h:e=0
 ·subst h;rfl
 ·rw[if_pos (by simpa using h),if_pos h]
theorem qls {F:Nat}{g:List (qsO)}{B l K a b:Int}(hF:1000≤F)(hg:Gr g)(ha:0≤a∧a<1000)(hb:0≤b∧b<1000) :
  yh F g B l K (ws2 [97,114,99] a b)=some (dkE (ofM g.length (af 0 g++[(a,b)])).2 (ofM g.length (af 0 g++[(a,b)])).1 B l K [111,107]):=by
 unfold yh
 rw[qiM (by omega) hg]
 simp only[qqD]
 rw[qhY (by unfold By;decide) (by decide) (by decide) ha hb]
 simp only[qqD]
 rw[show idx [[97,114,99],dcI a,dcI b] (0:Int)=some [97,114,99] from rfl,qhO]
 simp only[qqD]
 rw[if_neg (by decide),if_pos (by decide)]
 unfold vP
 rw[qkP]
 simp only[qqD]
 rw[take2 (by omega) ha hb]
 simp only[qqD,if_true]
 unfold qby
 rw[qpg hF,if_neg (by rw[qfT.2 hg];decide)]
 simp only[qqD]
 rw[(qco (a:=a) (b:=b)).1,(qco (a:=a) (b:=b)).2]
 simp only[qqD]
 have:=qoj hg
 rw[qdn (by simp;omega)]
 simp only[qqD]
 rw[qqy hF]
 simp only[qqD]
 rw[qmw]
theorem known2 {F:Nat}{g:List (qsO)}{B l K a b:Int}{n s:qsO}(hF:10≤F):kB F g B l K n s [a,b]=some (decide (a<g.length∧b<g.length)):=by
 unfold kB zv zC
 obtain ⟨k,rfl⟩:∃ k,F=k+3:=⟨F-3,by omega⟩
 have e0:qL (k+3) [a,b] g B l K n s (k+3) 0=if (g.length:Int)≤a then some 0 else if (g.length:Int)≤b then some 1 else some (-1):=by
  show qR (k+3) [a,b] g B l K n s (qL (k+3) [a,b] g B l K n s (k+2)) 0=_
  unfold qR y3
  rw[if_pos (by simp),(qco (a:=a) (b:=b)).1]
  simp only[qqD,decide_eq_true_eq]
  congr 1
  show qR (k+3) [a,b] g B l K n s (qL (k+3) [a,b] g B l K n s (k+1)) 1=_
  unfold qR y3
  rw[if_pos (by simp),(qco (a:=a) (b:=b)).2]
  simp only[qqD,decide_eq_true_eq]
  rfl
 rw[e0]
 by_cases h1:(g.length:Int)≤a
 ·rw[if_pos h1]
  simp only[qqD]
  rw[decide_eq_false (by omega:¬ (a<(g.length:Int)∧b<(g.length:Int)))];rfl
 ·rw[if_neg h1]
  by_cases h2:(g.length:Int)≤b
  ·rw[if_pos h2]
   simp only[qqD]
   rw[decide_eq_false (by omega:¬ (a<(g.length:Int)∧b<(g.length:Int)))];rfl
  ·rw[if_neg h2]
   simp only[qqD]
   rw[decide_eq_true (by omega:a<(g.length:Int)∧b<(g.length:Int))];rfl
theorem qlz {F:Nat}{r:qsO}{v:Int}{i:Nat}(hr:r[i]?=some v)(hn:r.Pairwise (·<·))(hm:r.length≤1000):∀ (k j:Nat),i<k+j→j≤i→zO F r v k (j:Int)=some (i:Int)
 | 0,j,h,hj=>by omega
 | k+1,j,h,hj=>by
  show kX F r v (zO F r v k) (j:Int)=_
  unfold kX
  obtain ⟨hi,hv⟩:=qqI.1 hr
  rw[if_pos (decide_eq_true (by omega)),kY,qqH (by omega)]
  simp only[qqD]
  by_cases e:j=i
  ·subst e
   rw[if_pos (by simp[hv])]
  ·have hlt:r[j]<r[i]:=List.pairwise_iff_getElem.1 hn j i (by omega) hi (by omega)
   rw[if_neg (by simp;omega),qcn (by omega) (by omega)]
   exact qlz hr hn hm k (j+1) (by omega) (by omega)
theorem qly:∀ (g:List (qsO)) (i:Nat) (r:qsO),(∀ x,g[i]?=some x→r.length≤x.length)→gtot (g.set i r)≤gtot g
 | [],_,_,_=>qqY _
 | x::g,0,r,h=>by
  show r.length+gtot g≤x.length+gtot g
  have:=h x rfl;omega
 | x::g,i+1,r,h=>by
  show x.length+gtot (g.set i r)≤x.length+gtot g
  have:=qly g i r (fun y hy=>h y (by simpa using hy));omega
theorem qqg {g h:List (qsO)}(hg:Gr g)(hh:Gr h)(hl:h.length=g.length)(hm:∀ p,p∈af 0 h↔p∈af 0 g):h=g:=by
 have hT:=qlm (qok hh)
 rw[hl] at hT
 exact qnb hg hT hm
theorem qhL {r:qsO}{i:Nat}{v x:Int}(hr:r[i]?=some v)(hn:r.Pairwise (·<·)):x∈r.take i++r.drop (i+1)↔x∈r∧x≠v:=by
 obtain ⟨hi,hv⟩:=qqI.1 hr
 have e:r=r.take i++v::r.drop (i+1):=by rw[← hv,List.getElem_cons_drop,qru]
 have hn':=hn
 rw[e,qss] at hn'
 have hn2:=qrG.1 hn'.2.1
 constructor
 ·intro h
  refine ⟨by rw[e];rcases qqG.1 h with h | h <;> simp[h],fun he=>?_⟩
  subst he
  rcases qqG.1 h with h | h
  ·have:=hn'.2.2 x h x (qqX ..);omega
  ·have:=hn2.1 x h;omega
 ·rintro ⟨h,hne⟩
  rw[e] at h
  rcases qqG.1 h with h | h
  ·exact qqG.2 (.inl h)
  ·rcases qqK.1 h with h | h
   ·exact absurd h hne
   ·exact qqG.2 (.inr h)
theorem qmn {F:Nat}{g:List (qsO)}{B l K a b:Int}{s:qsO}(hF:1000≤F)(hg:Gr g)(hm:(a,b)∈af 0 g) :
  ∃ h,ji F g B l K [a,b] s=some (0,h)∧Gr h∧h.length=g.length∧∀ p,p∈af 0 h↔p∈af 0 g∧p≠(a,b):=by
 obtain ⟨n,r,hr,hn,hbr⟩:=qeM.1 hm
 have hn:a=(n:Int):=by simpa using hn
 subst hn
 have hbr:b∈r:=hbr
 obtain ⟨hnl,hrn⟩:=qqI.1 hr
 have hrm:r∈g:=qqE hr
 have hpw:=(hg.2.1 r hrm).1
 have hrl:=qhM hg hrm
 obtain ⟨i,hi⟩:=qrT hbr
 have hil:=(qqI.1 hi).1
 have hin:=qjP hg _ hm
 have h1:=hg.1
 refine ⟨g.set n (r.take i++r.drop (i+1)),?_,⟨by simpa using h1,fun x hx=>?_,?_⟩,by simp,fun p=>?_⟩
 ·unfold ji
  rw[known2 (by omega),decide_eq_true ⟨hin.2.1,hin.2.2.2⟩]
  simp only[qqD,Bool.not_true,qrC,if_false]
  rw[(qco (a:=(n:Int)) (b:=b)).1,(qco (a:=(n:Int)) (b:=b)).2]
  simp only[qqD]
  rw[kY,hr]
  simp only[qqD]
  rw[show kQ F r b=some (i:Int) from qlz hi hpw (by omega) F 0 (by omega) (by omega)]
  simp only[qqD]
  rw[if_neg (by simp)]
  unfold yn lett
  rw[qcn (by omega) (by omega),if_pos (by omega)]
  simp only[qqD,qqZ]
  rw[show ((i:Int)+1).toNat=i+1 from by omega]
 ·rcases List.mem_or_eq_of_mem_set hx with h | h
  ·simpa using hg.2.1 x h
  ·subst h
   refine ⟨hpw.sublist ?_,fun y hy=>?_⟩
   ·have:=(List.Sublist.refl (r.take i)).append ((List.drop_sublist 1 (r.drop i)))
    rw[qru,List.drop_drop] at this
    exact this
   ·have:=(hg.2.1 r hrm).2 y ((qhL hi hpw).1 hy).1
    simpa using this
 ·refine Nat.le_trans (qly g n _ fun x hx=>?_) hg.2.2
  rw[hr] at hx
  cases hx
  rw[qqL,qqN,List.length_drop];omega
 ·rw[qeM,qeM]
  constructor
  ·rintro ⟨j,x,hx,h2,h3⟩
   rw[qrz] at hx
   by_cases e:n=j
   ·subst e
    rw[if_pos rfl,if_pos hnl] at hx
    cases hx
    have h4:=(qhL hi hpw).1 h3
    exact ⟨⟨n,r,hr,h2,h4.1⟩,fun e=>h4.2 (by rw[e])⟩
   ·rw[if_neg e] at hx
    exact ⟨⟨j,x,hx,h2,h3⟩,fun e2=>e (by rw[e2] at h2;simp at h2;omega)⟩
  ·rintro ⟨⟨j,x,hx,h2,h3⟩,hne⟩
   by_cases e:n=j
   ·subst e
    rw[hr] at hx
    cases hx
    refine ⟨n,_,by rw[qrz,if_pos rfl,if_pos hnl],h2,(qhL hi hpw).2 ⟨h3,fun e=>hne ?_⟩⟩
    exact Prod.ext (by rw[h2];simp) e
   ·exact ⟨j,x,by rw[qrz,if_neg e];exact hx,h2,h3⟩
theorem qjL {F:Nat}{g:List (qsO)}{B l K a b:Int}(hF:1000≤F)(hg:Gr g)(ha:0≤a∧a<1000)(hb:0≤b∧b<1000)(hm:(a,b)∈af 0 g) :
  ∃ h,yh F g B l K (ws2 [100,114,111,112] a b)=some (h,B,l,K,[111,107],0)∧Gr h∧h.length=g.length∧∀ p,p∈af 0 h↔p∈af 0 g∧p≠(a,b):=by
 obtain ⟨h,h1,h2⟩:=qmn (F:=F) (B:=B) (l:=l) (K:=K) (s:=[111,107]) hF hg hm
 refine ⟨h,?_,h2⟩
 unfold yh
 rw[qiM (by omega) hg]
 simp only[qqD]
 rw[qhY (by unfold By;decide) (by decide) (by decide) ha hb]
 simp only[qqD]
 rw[show idx [[100,114,111,112],dcI a,dcI b] (0:Int)=some [100,114,111,112] from rfl,qhO]
 simp only[qqD]
 rw[if_neg (by decide),if_neg (by decide),if_pos (by decide)]
 unfold vQ
 rw[qkP]
 simp only[qqD]
 rw[take2 (by omega) ha hb]
 simp only[qqD,if_true]
 rw[h1]
 simp only[qqD]
 rw[qmw]
 rfl
theorem qod {F:Nat}{g:List (qsO)}{B l K:Int}{a b:Nat}(hF:1000≤F)(hg:Gr g)(ha:a<g.length)(hb:b<g.length){z:Int}(hz:gD (farL g a) b=z)(hz0:0≤z) :
  yh F g B l K (ws2 [102,97,114] a b)=some (g,B,l,K,dcI z,0):=by
 have h1:=hg.1
 have hf:=qkE hg ha
 have hlt:=hf.lt b (by omega)
 have ha2:0≤(a:Int)∧(a:Int)<1000:=by omega
 have hb2:0≤(b:Int)∧(b:Int)<1000:=by omega
 unfold yh
 rw[qiM (by omega) hg]
 simp only[qqD]
 rw[qhY (by unfold By;decide) (by decide) (by decide) ha2 hb2]
 simp only[qqD]
 rw[show idx [[102,97,114],dcI (a:Int),dcI (b:Int)] (0:Int)=some [102,97,114] from rfl,qhO]
 simp only[qqD]
 rw[if_neg (by decide),if_neg (by decide),if_neg (by decide),if_neg (by decide),if_neg (by decide),if_neg (by decide),if_pos (by decide)]
 unfold vR
 rw[qkP]
 simp only[qqD]
 rw[take2 (by omega) ha2 hb2]
 simp only[qqD,if_true]
 unfold qbz
 rw[known2 (by omega),decide_eq_true (by omega:(a:Int)<(g.length:Int)∧(b:Int)<(g.length:Int))]
 simp only[qqD,Bool.not_true,qrC,if_false]
 rw[(qco (a:=(a:Int)) (b:=(b:Int))).1,(qco (a:=(a:Int)) (b:=(b:Int))).2]
 simp only[qqD]
 rw[qp2 hF,show farM g (a:Int)=(farL g a,0) from by unfold farM;rw[if_neg (by simp[qo9 hg ha]),qqZ]]
 simp only[qqD]
 rw[kY,qgR (by rw[hf.len];exact hb),hz]
 simp only[qqD]
 rw[qm8 (by omega)]
 simp only[qqD]
 rw[if_neg (by simp;omega)]
 unfold vn
 simp only[qqD]
 rw[qmw]
 rfl
theorem qhR {F:Nat}{g:List (qsO)}{B l K:Int}(hF:2000≤F)(h:Sm g):vG F g B l K g B l K=some true:=by
 unfold vG
 rw[qmA hF h]
 simp
theorem qjv {F:Nat}{g:List (qsO)}{B l K a b:Int}(hF:2000≤F):qeA F g B l K a b=some true:=by
 unfold qeA
 rw[show qbQ F=some true from by obtain ⟨n,rfl⟩:∃ n,F=n+400:=⟨F-400,by omega⟩;exact qmm n]
 simp only[qqD]
 rw[if_neg (by decide)]
 by_cases h0:a<0∨200<a∨b<0∨200<b
 ·rw[if_pos (by simpa[or_assoc] using h0)]
 rw[if_neg (by simpa[or_assoc] using h0)]
 have ha:0≤a∧a<1000:=by omega
 have hb:0≤b∧b<1000:=by omega
 have la:=qiK ha
 have lb:=qiK hb
 rw[qm7 (by omega) ha]
 simp only[qqD]
 rw[qdn (by simp;omega)]
 simp only[qqD]
 rw[qdn (by simp;omega)]
 simp only[qqD]
 rw[qm7 (by omega) hb]
 simp only[qqD]
 rw[qdn (by simp;omega)]
 simp only[qqD]
 have hap:∀ k:qsO,k.length≤10→app 9223372036854775807 k ([32]++dcI a++[32]++dcI b)=some (ws2 k a b):=fun k hk=>by
  rw[qdn (by simp;omega)];rfl
 rw[hap [97,114,99] (by decide)]
 simp only[qqD]
 obtain ⟨e,he,he2⟩:=qqa B l K
 have hc:ya F g B l K=some (if gchk g≠0 then gchk g else e):=qiL (by omega) he
 have hnil:vG F ([]:List (qsO)) 0 0 0 ([]:List (qsO)) 0 0 0=some true:=qhR hF qqj
 by_cases hz:(if gchk g≠0 then gchk g else e)=0
 rotate_left
 ·rw[qqc hc hz]
  simp only[qqD]
  have h6:=qqf g
  rw[if_pos (by simpa using hz),if_pos (by simp;split <;> omega),hnil]
  rfl
 have hg0:gchk g=0:=by
  by_cases h:gchk g=0
  ·exact h
  ·rw[if_pos h] at hz;exact absurd hz h
 have hg:=qfT.1 hg0
 have hcz:∀ h:List (qsO),Gr h→ya F h B l K=some 0:=fun h hh=>by
  rw[qiL (by omega) he,if_neg (by rw[qfT.2 hh];decide)]
  rw[if_neg (by rw[hg0];decide)] at hz
  rw[hz]
 have hn:=hg.1
 have hlen:=qoj hg
 have hE0:ofE g.length [] (af 0 g)=0:=qkM.2 ⟨qjP hg,qhr hg,fun p _=>by simp⟩
 rw[qlr (hcz g hg),qls (by omega) hg ha hb]
 simp only[qqD]
 have hE:=qnc (B:=[(a,b)]) hE0
 rw[qrc,qhv] at hE
 by_cases hm:(a,b)∈af 0 g
 ·
  have hin:=qjP hg _ hm
  rw[if_neg (by omega),if_pos hm] at hE
  by_cases h6:600<(af 0 g++[(a,b)]).length
  ·have hof:ofM (g.length:Int) (af 0 g++[(a,b)])=([],2):=by
    unfold ofM
    rw[if_neg (by omega),if_pos h6]
   rw[hof]
   rw[if_pos (by simp[dkE]),if_pos (by simp[dkE])]
   simp only[dkE]
   exact (congrArg (fun o=>o.bind fun x=>some x) hnil)
  ·have hof:ofM (g.length:Int) (af 0 g++[(a,b)])=([],6):=by
    unfold ofM
    rw[if_neg (by omega),if_neg h6,hE,if_pos (by decide)]
   rw[hof]
   rw[if_pos (by simp[dkE]),if_neg (by simp[dkE]),hap _ (by decide)]
   simp only[qqD]
   obtain ⟨h,h1,hh,hl,hmm⟩:=qjL (F:=F) (B:=B) (l:=l) (K:=K) (by omega) hg ha hb hm
   rw[qlr (hcz g hg),h1]
   simp only[qqD]
   rw[qlr (hcz h hh),qls (by omega) hh ha hb]
   have hperm:(af 0 h++[(a,b)]).Nodup:=by
    rw[qra]
    exact ⟨qhr hh,by simp,fun p hp q hq e=>by rw[qqQ] at hq;exact ((hmm p).1 hp).2 (e.trans hq)⟩
   have hinr:InR h.length (af 0 h++[(a,b)]):=fun p hp=>by
    rcases qqG.1 hp with hp | hp
    ·exact qjP hh p hp
    ·rw[qqQ] at hp;subst hp;rw[hl];exact hin
   have hmem:∀ p,p∈af 0 h++[(a,b)]↔p∈af 0 g:=fun p=>by
    rw[qqG,qqQ,hmm]
    constructor
    ·rintro (⟨hp,_⟩ | rfl)
     ·exact hp
     ·exact hm
    ·intro hp
     by_cases e:p=(a,b)
     ·exact .inr e
     ·exact .inl ⟨hp,e⟩
   have hpl:(af 0 h++[(a,b)]).length=(af 0 g).length:=((qr6 hperm (qhr hg)).2 hmem).length_eq
   have hof2:ofM (h.length:Int) (af 0 h++[(a,b)])=(g,0):=by
    rw[qnd hh.1 (by omega) hinr hperm]
    have hT:=qj1 (n:=h.length) hperm
    rw[hl] at hT ⊢
    rw[qnb hg hT hmem]
   rw[hof2]
   simp only[qqD,dkE,ne_eq,not_true_eq_false,if_false]
   rw[qkA]
   simp only[beq_self_eq_true,qsh,if_true]
   rw[qhR hF (qpY hg)]
   rfl
 ·rw[if_neg hm] at hE
  by_cases c1:(a,b).1<0∨(g.length:Int)≤(a,b).1∨(a,b).2<0∨(g.length:Int)≤(a,b).2
  ·rw[if_pos c1] at hE
   have hof:∃ x:Int,(x=2∨x=3)∧ofM (g.length:Int) (af 0 g++[(a,b)])=([],x):=by
    unfold ofM
    rw[if_neg (by omega)]
    split
    ·exact ⟨2,.inl rfl,rfl⟩
    ·rw[hE,if_pos (by decide)];exact ⟨3,.inr rfl,rfl⟩
   obtain ⟨x,hx,hof⟩:=hof
   rw[hof]
   have hx0:x≠0:=by omega
   simp only[dkE,ne_eq,hx0,not_false_eq_true,if_true]
   rw[if_pos (by simpa using hx0),if_pos (by simp;omega),hnil]
   rfl
  ·rw[if_neg c1] at hE
   by_cases h6:600<(af 0 g++[(a,b)]).length
   ·have hof:ofM (g.length:Int) (af 0 g++[(a,b)])=([],2):=by
     unfold ofM
     rw[if_neg (by omega),if_pos h6]
    rw[hof]
    rw[if_pos (by simp[dkE]),if_pos (by simp[dkE])]
    simp only[dkE]
    exact (congrArg (fun o=>o.bind fun x=>some x) hnil)
   ·have hperm:(af 0 g++[(a,b)]).Nodup:=by
     rw[qra]
     exact ⟨qhr hg,by simp,fun p hp q hq e=>by rw[qqQ] at hq;exact hm (hq▸e▸hp)⟩
    have hinr:InR g.length (af 0 g++[(a,b)]):=fun p hp=>by
     rcases qqG.1 hp with hp | hp
     ·exact qjP hg p hp
     ·rw[qqQ] at hp;subst hp;simp only at c1;omega
    have hof:=qnd (n:=g.length) hn (by omega) hinr hperm
    have hT:=qj1 (n:=g.length) hperm
    obtain ⟨h,hh0⟩:∃ h,h=tab g.length (srtA (af 0 g++[(a,b)])):=⟨_,rfl⟩
    rw[hof,← hh0]
    rw[← hh0] at hT
    have hpl:=(qmu hT hinr hperm)
    have hh:Gr h:=qom hT hinr hn (by rw[hpl.length_eq];omega)
    have hhl:h.length=g.length:=by rw[hh0,qhD]
    have hmh:∀ p,p∈af 0 h↔p∈af 0 g++[(a,b)]:=fun p=>hpl.mem_iff
    have hab:(a,b)∈af 0 h:=(hmh _).2 (by simp)
    rw[if_neg (by simp[dkE]),hap _ (by decide)]
    simp only[qqD,dkE,ne_eq,not_true_eq_false,if_false]
    obtain ⟨h',d1,hh',hl',hm'⟩:=qjL (F:=F) (B:=B) (l:=l) (K:=K) (by omega) hh ha hb hab
    have heq:h'=g:=qqg hg hh' (by rw[hl',hhl]) fun p=>by
     rw[hm',hmh,qqG,qqQ]
     constructor
     ·rintro ⟨h1 | h1,h2⟩
      ·exact h1
      ·exact absurd h1 h2
     ·exact fun h1=>⟨.inl h1,fun e=>hm (e▸h1)⟩
    subst heq
    rw[qlr (hcz h hh),d1]
    simp only[qqD]
    rw[hap _ (by decide)]
    simp only[qqD]
    simp only[not_or,Int.not_lt,Int.not_le] at c1
    obtain ⟨n,rfl⟩:=qqP ha.1
    obtain ⟨m,rfl⟩:=qqP hb.1
    have hn1:n<h.length:=by omega
    have hm1:m<h.length:=by omega
    have hf:=qkE hh hn1
    have hld:Ld h n m:=hab
    have hup:=hf.up n m hld (by rw[hf.src];omega)
    rw[hf.src] at hup
    rw[qlr (hcz h hh),qod (by omega) hh hn1 hm1 rfl hup.1]
    simp only[qqD]
    rw[qkA]
    simp only[beq_self_eq_true,qsh,if_true]
    rw[qhR hF (qpY hg)]
    simp only[qqD]
    unfold j8
    simp only[beq_self_eq_true,qsh,if_true]
    by_cases hz0:gD (farL h n) m=0
    ·have:=qof hf hz0
     subst this
     rw[hz0,if_neg (by decide)]
     unfold qaa j9
     simp only[beq_self_eq_true,qsh]
     congr 1
    ·have h1:gD (farL h n) m=1:=by omega
     rw[h1,if_pos (by decide)]
     rfl
end Go.Proofs.YthibchijlpflmaaGreatDoor
