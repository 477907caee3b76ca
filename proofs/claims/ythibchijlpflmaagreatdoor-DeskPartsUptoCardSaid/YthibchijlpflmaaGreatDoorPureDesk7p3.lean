/- Plain facts of what the functions of this seat compute, part 3. -/
import Derived.Test.YthibchijlpflmaaGreatDoorPureDesk7p2
import Derived.KernelRfl
import Derived.Lib.SlicesCompact
import Derived.Lib.SplitLaws
open List renaming mem_append→qCr, length_append→qCt, mem_cons→qCu, mem_cons_self→qCC, mem_cons_of_mem→qCD, length_cons→qCH, cons_append→qDt
open Option renaming bind_some→qCm
namespace Go.Proofs.YthibchijlpflmaaGreatDoor
open Go SX
variable {F:Nat} {rec68:(List (Int×Int)×qFm×Int)→Option (List (Int×Int)×qFm)} {l:qFm} {lea0:Int} {o:List (Int×Int)} {rest:qFm} {i:Int}
theorem qvU {g:List (qFm)}{B l K:Int}{s:qFm}(hF:2000200≤F)(hg:Gr g)(hh:hcE B l K=0)(hs:By s)(hl:s.length≤1999999):Fine g B l K (qc0 F g B l K s):=by
 unfold qc0
 rw[qpY (by omega) hg]
 simp only[qCm]
 rw[qku (by omega) hs (by omega)]
 simp only[qCm]
 have hc:∀ s:qFm,(cutI 32 s).length≤s.length+1∧(∀ w∈cutI 32 s,w.length≤s.length)∧cutI 32 s≠[]:=fun s=>by
  induction s with
  | nil=>exact ⟨by simp[cutI],by simp[cutI],by simp[cutI]⟩
  | cons x s ih =>
   obtain ⟨i1,i2,i3⟩:=ih
   rw[qh8]
   split
   ·exact ⟨by simp only[qCH];omega,fun w hw=>by
     rcases qCu.1 hw with rfl | hw
     ·simp
     ·have:=i2 w hw;rw[qCH];omega,by simp⟩
   ·cases h:cutI 32 s with
    | nil=>exact absurd h i3
    | cons y r =>
     rw[h] at i1 i2
     simp only[qCH] at i1
     refine ⟨by simp only[qCH];omega,fun w hw=>?_,by simp⟩
     rcases qCu.1 hw with rfl | hw
     ·have:=i2 y (qCC ..);simp only[qCH];omega
     ·have:=i2 w (qCD _ hw);rw[qCH];omega
 obtain ⟨c1,c2,c3⟩:=hc s
 cases h:cutI 32 s with
 | nil=>exact absurd h c3
 | cons w ws =>
  rw[h] at c1 c2
  have hm:ws.length≤2000000:=by rw[qCH] at c1;omega
  have hw:∀ x∈ws,x.length≤2000000:=fun x hx=>by have:=c2 x (qCD _ hx);omega
  rw[show idx (w::ws) (0:Int)=some w from rfl,qCm,quE,qCm]
  exact qbg (f15 hF hh hm hw) (qbg (f16 hF hg hh hm hw) (qbg (f17 hF hg hh hm hw) (qbg (f18 hF hg hm hw) (qbg (f19 hF hg hh hm hw) (qbg (f20 hF hg hh hm hw) (qbg (f21 hF hg hh hm hw) (qbg (f22 hF hg hh hm hw) (qbg (f23 hF hg hh hm hw) (qbg (f24 hF hg hh hm hw) (qbg (f25 hF hg hh hm hw) (qbg (f26 hF hg hh hm hw) (vB (.inl e1)))))))))))))
abbrev DS:=List (qFm)×Int×Int×Int
def dkr (F:Nat)(d:DS)(s:qFm):DR:=(qc0 F d.1 d.2.1 d.2.2.1 d.2.2.2 s).getD ([],0,0,0,[],0)
def dkn (F:Nat)(d:DS)(s:qFm):DS:=if (dkr F d s).2.2.2.2.2=0 then ((dkr F d s).1,(dkr F d s).2.1,(dkr F d s).2.2.1,(dkr F d s).2.2.2.1) else d
def dkt (F:Nat)(d:DS)(s:qFm):qFm:=((if (dkr F d s).2.2.2.2.2=0 then (dkr F d s).2.2.2.2.1 else [101,114,114,111,114,32]++dcI (dkr F d s).2.2.2.2.2)++[10]).map b8
def dkw (F:Nat):List (qFm)→DS→qFm×DS
 | [],d=>([],d)
 | s::ls,d=>if s=[] then dkw F ls d else (dkt F d s++(dkw F ls (dkn F d s)).1,(dkw F ls (dkn F d s)).2)
theorem qom {F:Nat}:∀ (a b:List (qFm)) (d:DS),dkw F (a++b) d=((dkw F a d).1++(dkw F b (dkw F a d).2).1,(dkw F b (dkw F a d).2).2)
 | [],b,d=>by simp[dkw]
 | s::a,b,d=>by
  simp only[qDt,dkw]
  split
  ·exact qom a b d
  ·rw[qom a b (dkn F d s)];simp
def Okd (d:DS):Prop:=Gr d.1∧hcE d.2.1 d.2.2.1 d.2.2.2=0
def Shr (s:qFm):Prop:=By s∧s.length≤1999999
theorem qqn {d:DS}{s:qFm}(hF:2000200≤F)(hd:Okd d)(hs:Shr s) :
  ∃ r:DR,qc0 F d.1 d.2.1 d.2.2.1 d.2.2.2 s=some r∧dkr F d s=r∧0≤r.2.2.2.2.2∧r.2.2.2.2.2≤100∧Okd (dkn F d s)∧(dkt F d s).length≤2000100:=by
 obtain ⟨r,h1,h2⟩:=qvU hF hd.1 hd.2 hs.1 hs.2
 have er:dkr F d s=r:=by unfold dkr;rw[h1];rfl
 refine ⟨r,h1,er,?_⟩
 unfold dkn dkt
 rw[er]
 rcases h2 with ⟨e,e1,e2,rfl⟩ | ⟨g',B',l',K',t,rfl,k1,k2,k3,k4⟩
 ·rw[if_neg (by dsimp only;omega),if_neg (by dsimp only;omega)]
  have:=qlw (n:=e) (by omega)
  exact ⟨by dsimp only;omega,e2,hd,by simp;omega⟩
 ·exact ⟨Int.le_refl _,by dsimp only;omega,⟨k1,k2⟩,by simp;omega⟩
theorem qk3 {F:Nat}(hF:2000200≤F):∀ (ls:List (qFm)) (d:DS),(∀ s∈ls,Shr s)→Okd d→Okd (dkw F ls d).2∧(dkw F ls d).1.length≤ls.length*2000100
 | [],d,_,hd=>⟨hd,by simp[dkw]⟩
 | s::ls,d,hs,hd=>by
  unfold dkw
  have hs':∀ s∈ls,Shr s:=fun x hx=>hs x (qCD _ hx)
  split
  ·have:=qk3 hF ls d hs' hd
   exact ⟨this.1,by simp;omega⟩
  ·obtain ⟨r,_,_,_,_,h5,h6⟩:=qqn hF hd (hs s (qCC ..))
   have:=qk3 hF ls _ hs' h5
   exact ⟨this.1,by simp;omega⟩
theorem qBP (x:qFm):∀ y∈x.map b8,0≤y∧y<256:=fun y hy=>by
 obtain ⟨z,_,rfl⟩:=List.mem_map.1 hy
 unfold b8
 have:=(UInt8.ofNat z.toNat).toNat_lt
 omega
theorem qol {F:Nat}{ls:List (qFm)}(hF:2000200≤F)(hs:∀ s∈ls,Shr s)(hm:ls.length≤100):∀ (k i:Nat) (acc:qFm) (d:DS),ls.length<k+i→i≤ls.length→Okd d→acc.length≤i*2000100→(∀ y∈acc,0≤y∧y<256) →
  j8 F ls k ((i:Int),acc,d.1,d.2.1,d.2.2.1,d.2.2.2)=some ((dkw F (ls.drop i) d).2.1,(dkw F (ls.drop i) d).2.2.1,(dkw F (ls.drop i) d).2.2.2.1,(dkw F (ls.drop i) d).2.2.2.2,acc++(dkw F (ls.drop i) d).1,0)
 | 0,_,_,_,_,_,_,_,_=>by omega
 | k+1,i,acc,d,h,hi,hd,ha,hb=>by
  show qfB F ls (j8 F ls k) (i:Int) acc d.1 d.2.1 d.2.2.1 d.2.2.2=_
  unfold qfB
  by_cases hlt:i<ls.length
  ·rw[if_pos (decide_eq_true (by omega)),qj,List.getElem?_eq_getElem hlt,List.drop_eq_getElem_cons hlt]
   simp only[qCm]
   have hsi:=hs _ (List.getElem_mem hlt)
   rw[qvx hsi.1]
   have hk1:ls.length<k+(i+1):=by omega
   have hA:acc.length≤(i+1)*2000100:=Nat.le_trans ha (Nat.mul_le_mul_right _ (Nat.le_succ i))
   unfold dkw
   by_cases h0:ls[i]=[]
   ·rw[if_pos (decide_eq_true h0),if_pos h0]
    unfold qbW
    rw[qn (by omega)]
    exact qol hF hs hm k (i+1) acc d hk1 hlt hd hA hb
   ·rw[if_neg (by simpa using h0),if_neg h0]
    obtain ⟨r,h1,h2,h3,h4,h5,h6⟩:=qqn hF hd hsi
    rw[h1]
    simp only[qCm]
    have step:∀ t:qFm,t.length≤2000099→dkt F d ls[i]=(t++[10]).map b8→qbX F (j8 F ls k) (i:Int) acc t (dkn F d ls[i]).1 (dkn F d ls[i]).2.1 (dkn F d ls[i]).2.2.1 (dkn F d ls[i]).2.2.2 =
      some ((dkw F (ls.drop (i+1)) (dkn F d ls[i])).2.1,(dkw F (ls.drop (i+1)) (dkn F d ls[i])).2.2.1,(dkw F (ls.drop (i+1)) (dkn F d ls[i])).2.2.2.1,(dkw F (ls.drop (i+1)) (dkn F d ls[i])).2.2.2.2,acc++(dkt F d ls[i]++(dkw F (ls.drop (i+1)) (dkn F d ls[i])).1),0):=fun t ht e=>by
     unfold qbX qbW
     rw[ko (by simp;omega),qCm,ko (by simp;omega),qCm,← e,qn (by omega),← List.append_assoc]
     refine qol hF hs hm k (i+1) _ _ (by omega) (by omega) h5 (by rw[qCt];omega) fun y hy=>?_
     rcases qCr.1 hy with hy | hy
     ·exact hb y hy
     ·rw[e] at hy;exact qBP _ y hy
    by_cases he:r.2.2.2.2.2=0
    ·rw[if_neg (by simp[he])]
     have en:dkn F d ls[i]=(r.1,r.2.1,r.2.2.1,r.2.2.2.1):=by unfold dkn;rw[h2,if_pos he]
     have et:dkt F d ls[i]=(r.2.2.2.2.1++[10]).map b8:=by unfold dkt;rw[h2,if_pos he]
     have:=step r.2.2.2.2.1 (by have:=h6;rw[et] at this;simp at this;omega) et
     rw[en] at this ⊢
     exact this
    ·rw[if_pos (by simpa using he),qk1 (by omega),qCm]
     have hl:=qlw (n:=r.2.2.2.2.2) (by omega)
     rw[ko (by simp;omega),qCm]
     have en:dkn F d ls[i]=d:=by unfold dkn;rw[h2,if_neg he]
     have:=step ([101,114,114,111,114,32]++dcI r.2.2.2.2.2) (by simp;omega) (by unfold dkt;rw[h2,if_neg he])
     rw[en] at this ⊢
     exact this
  ·rw[if_neg (by simp;omega)]
   have:ls.drop i=[]:=List.drop_eq_nil_of_le (by omega)
   rw[this]
   unfold qfC bstrM dkw
   rw[if_pos (by rw[List.all_eq_true];exact fun x hx=>decide_eq_true (hb x hx))]
   simp
theorem qlv {c:Int}:∀ a b:qFm,cutI c (a++c::b)=cutI c a++cutI c b
 | [],b=>by simp[cutI]
 | x::a,b=>by
  rw[qDt,qh8,qh8,qlv a b]
  split
  ·rfl
  ·cases h:cutI c a with
   | nil=>exact absurd h (qoj _ _)
   | cons y r=>rfl
theorem qsV {c:Int}:∀ s:qFm,∀ w∈cutI c s,w.length≤s.length
 | [],w,h=>by simp[cutI] at h;simp[h]
 | x::s,w,h=>by
  have ih:=qsV (c:=c) s
  rw[qh8] at h
  split at h
  ·rcases qCu.1 h with rfl | h
   ·simp
   ·have:=ih w h;rw[qCH];omega
  ·cases hc:cutI c s with
   | nil=>exact absurd hc (qoj _ _)
   | cons y r =>
    rw[hc] at h ih
    rcases qCu.1 h with rfl | h
    ·have:=ih y (qCC ..);simp only[qCH];omega
    ·have:=ih w (qCD _ h);rw[qCH];omega
theorem qsW {c:Int}{s:qFm}(hs:By s)(hl:s.length≤1999999):∀ w∈cutI c s,Shr w:=fun w hw=>⟨qoi hs w hw,Nat.le_trans (qsV s w hw) hl⟩
def endR (p:qFm×DS):DR:=(p.2.1,p.2.2.1,p.2.2.2.1,p.2.2.2.2,p.1,0)
theorem qlz {d:DS}{s:qFm}(hF:2000200≤F)(hd:Okd d)(hs:By s)(hl:s.length<4294967281)(hw:∀ w∈cutI 10 s,Shr w) :
  qay F d.1 d.2.1 d.2.2.1 d.2.2.2 s=some (if 100<(cutI 10 s).length then ([],0,0,0,[],2) else endR (dkw F (cutI 10 s) d)):=by
 unfold qay
 have hc:jA F d.1 d.2.1 d.2.2.1 d.2.2.2=some 0:=by rw[qiY (by omega) fun _=>qd9,if_neg (by rw[yi.2 hd.1];decide),hd.2]
 rw[hc,qCm,qku (by decide) hs hl,qCm]
 by_cases h:100<(cutI 10 s).length
 ·rw[if_pos (by simp;omega),if_pos h];rfl
 ·rw[if_neg (by simp;omega),if_neg h]
  unfold qcx
  rw[if_neg (by decide),qpY (by omega) hd.1]
  have:=qol (F:=F) (ls:=cutI 10 s) hF hw (by omega) F 0 [] d (by omega) (by omega) hd (by simp) (by simp)
  rw[List.drop_zero,List.nil_append] at this
  exact this
theorem qly {g:List (qFm)}{B l K:Int}{a b:qFm}(hF:2000200≤F)(ha:By a)(hb:By b)(hla:a.length≤1999999)(hlb:b.length≤1999999):qgj F g B l K a b=some true:=by
 unfold qgj
 have hbg:qej F=some true:=by obtain ⟨n,rfl⟩:∃ n,F=n+400:=⟨F-400,by omega⟩;exact qrm n
 have hnil:qcf F ([]:List (qFm)) 0 0 0 ([]:List (qFm)) 0 0 0=some true:=qnu (by omega) qBp
 have hc:jA F g B l K=some (if gchk g≠0 then gchk g else hcE B l K):=qiY (by omega) fun _=>qd9
 rw[ko (by simp;omega),qCm,ko (by simp;omega),qCm,hbg]
 have he:a++[10]++b=a++10::b:=by simp
 rw[he]
 have hby:By (a++10::b):=fun x hx=>by
  rcases qCr.1 hx with hx | hx
  ·exact ha x hx
  ·rcases qCu.1 hx with rfl | hx
   ·decide
   ·exact hb x hx
 by_cases hz:(if gchk g≠0 then gchk g else hcE B l K)=0
 rotate_left
 ·have:qay F g B l K (a++10::b)=some ([],0,0,0,[],if gchk g≠0 then gchk g else hcE B l K):=by
   unfold qay
   rw[hc,qCm,qku (by decide) hby (by simp;omega),qCm,if_neg (by simp only[Bool.and_eq_true,beq_iff_eq,not_and];exact fun h=>absurd h hz)]
   unfold qcx
   rw[if_pos (by simpa using hz)]
  rw[this]
  simp only[qCm]
  rw[if_neg (by decide),if_pos (by simpa using hz),hnil,qCm,qob]
  rfl
 have hg0:gchk g=0:=by
  by_cases h:gchk g=0
  ·exact h
  ·rw[if_pos h] at hz;exact absurd hz h
 rw[if_neg (by rw[hg0];decide)] at hz
 have hd:Okd (g,B,l,K):=⟨yi.1 hg0,hz⟩
 have wa:=qsW (c:=10) ha hla
 have wb:=qsW (c:=10) hb hlb
 have r1:=qlz (d:=(g,B,l,K)) hF hd hby (by simp;omega) (by rw[qlv];exact fun w hw=>(qCr.1 hw).elim (wa w) (wb w))
 have r2:=qlz (d:=(g,B,l,K)) hF hd ha (by omega) wa
 rw[qlv,qCt] at r1
 dsimp only at r1 r2
 rw[r1]
 simp only[qCm]
 rw[if_neg (by decide)]
 by_cases h:100<(cutI 10 a).length+(cutI 10 b).length
 ·rw[if_pos h,if_pos (by decide),hnil,qCm,qob];rfl
 obtain ⟨ka,la⟩:=qk3 hF _ _ wa hd
 obtain ⟨kb,lb⟩:=qk3 hF _ _ wb ka
 have r3:=qlz hF ka hb (by omega) wb
 rw[if_neg (by omega)] at r2 r3
 rw[if_neg h,if_neg (by simp[endR]),r2]
 simp only[qCm,endR]
 rw[r3]
 simp only[qCm,endR]
 rw[if_pos (by decide),ko (by omega),qCm,qom,qob]
 unfold qcd
 rw[if_pos rfl]
 dsimp only
 rw[qnu (by omega) (qCa kb.1),qCm]
 unfold qce
 rw[if_pos rfl,qiY (by omega) fun _=>qd9,if_neg (by rw[yi.2 kb.1];decide)]
 dsimp only
 rw[kb.2]
 rfl
end Go.Proofs.YthibchijlpflmaaGreatDoor
