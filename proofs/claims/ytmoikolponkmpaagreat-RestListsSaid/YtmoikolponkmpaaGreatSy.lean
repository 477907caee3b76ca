/- A layer of rules for walking Go code: what a frame's slots hold, what blocks and rows of the heap hold; each rule speaks of a plain model's value: part 3. -/
import Derived.Test.YtmoikolponkmpaaGreatSx
import Derived.Lib.AppendZerosOnto
import Derived.Lib.Overlaps
import Derived.Lib.SmallJoins
import Derived.Deep.Slices
open BitVec renaming ofNat→qwd, ofInt→qwi, toNat_ofNat→qwB
open Bool renaming false_and→qvT, false_eq_true→qv0
open Int renaming eq_ofNat_of_zero_le→qvS
open List renaming getElem?_eq_getElem→qvL, length_append→qvN, mem_of_getElem?→qvO, mem_cons→qvR, getElem?_eq_some_iff→qvW, flatMap_cons→qvX, length_take→qwb, range→qwm, flatMap_append→qwt, mem_map→qwy, take_append_drop→qwD, getElem?_map→qwK, length_map→qwO, getElem?_append_left→qw4, nodup_cons→qxv, mem_range→qxB
open List.Sublist renaming refl→qv9, append→qxs
open List.cons renaming injEq→qxi
open Nat renaming le_refl→qv3, mod_eq_of_lt→qwj, zero_le→qwn, le_of_ble_eq_true→qwF
open Option renaming map_some→qwo
open Option.some renaming injEq→qvY
namespace SX
open Go
def qv (a:Option Addr)(h n c size:Nat):Value:=match h with
 | 0=>.slice a n c
 | k+1=>.slice (if c-(k+1)=0 then a.map (·.add (k*size)) else a.map (·.add ((k+1)*size))) n (c-(k+1))
section
variable {P:Program}
end
section rules
variable {P:Program} {ro:Option Nat} {n:Nat} {D:List Deferred} {M0:List Nat} {w0:World} {Q:Exit→Act→World→Prop} {ρ:Type}
variable {ops:Array Oper} {rest:List Oper} {l:Env} {B:List BlkD} {R:List RowD} {F:List (World→Prop)} {m:Option ρ} {r:ρ}
variable {d:Nat} {t t' e:TypeId} {pos:String} {af:Array Edge} {gd:Option (Nat×Bool)} {agg:Bool} {z:Value} {size bytes:Nat}
variable {α:Type} {enc:α→List Value} {xs hs:List α}
end rules
end SX
namespace SX
open Go
section ins
variable {P:Program} {M0:List Nat} {w0 w:World} {B:List BlkD} {R:List RowD} {F:List (World→Prop)} {agg:Bool} {z:Value} {size bytes:Nat} {t t2 e:TypeId} {α:Type} {enc:α→List Value} {xs us:List α}
end ins
section rules
variable {P:Program} {ro:Option Nat} {n:Nat} {D:List Deferred} {M0:List Nat} {w0:World} {Q:Exit→Act→World→Prop} {ρ:Type}
variable {ops:Array Oper} {rest:List Oper} {l:Env} {B:List BlkD} {R:List RowD} {F:List (World→Prop)} {m:Option ρ} {r:ρ}
variable {d:Nat} {t t' t2 e:TypeId} {pos:String} {af:Array Edge} {gd:Option (Nat×Bool)} {agg:Bool} {z:Value} {size bytes:Nat}
variable {α:Type} {enc:α→List Value} {xs hs ys:List α}
theorem qt3 {x:Operand}{lo hi:Option Operand}{L H nn c:Nat}{ao:Option Addr}{V:Value}(ht:P.underlying t'=some (.slice e))(hT:TyF P e agg z size bytes)
  (hx:ev l x=some (.slice ao nn c)) (hlo:evOpt l lo 0=some (L:Int)) (hhi:evOpt l hi (nn:Int)=some (H:Int)) (b2':L≤H) (hn1:H≤c) (hv:cutv ao c size L H=V) :
  Yv P l B F ⟨some d,.slice t' x lo hi none,t,pos,af,gd⟩ V:=by
 intro n D a w hf _
 subst hv
 have h1:=hf.ev hx
 have e1:=qcL hf hlo
 have e2:=qcL hf hhi
 have hb0:(0:Int)≤(H:Int):=by omega
 have hb2:(L:Int)≤(H:Int):=by omega
 have hb3:(0:Int)≤(L:Int):=by omega
 generalize hε:a.eval=ε at h1 e1 e2 ⊢
 rcases e1 with ⟨k1,e1⟩ | ⟨rfl,e1⟩ <;> rcases e2 with ⟨k2,e2⟩ | ⟨rfl,e2⟩
 ·simp[execOp,h1,e1,e2,Instr.sliceAt,Instr.slice,Instr.sliceBounds,Instr.sliceBound,asIntOf,run_underlying ht,hT.run_size,hb0,hb3,hn1,b2',cutv]
 ·have:H=nn:=by omega
  subst this
  simp[execOp,h1,e1,Instr.sliceAt,Instr.slice,Instr.sliceBounds,Instr.sliceBound,asIntOf,run_underlying ht,hT.run_size,hb3,b2',cutv]
 ·have:L=0:=by omega
  subst this
  simp[execOp,h1,e2,Instr.sliceAt,Instr.slice,Instr.sliceBounds,Instr.sliceBound,asIntOf,run_underlying ht,hT.run_size,hb0,hn1,cutv]
 ·have:H=nn:=by omega
  subst this
  have:L=0:=by omega
  subst this
  simp[execOp,h1,Instr.sliceAt,Instr.slice,Instr.sliceBounds,run_underlying ht,hT.run_size,cutv]
theorem qmS {x:Operand}{lo hi:Option Operand}{L H nn c:Nat}{ao:Option Addr}{V:Value}(hw:wants ops l ⟨some d,.slice t' x lo hi none,t,pos,af,gd⟩=some true)(ht:P.underlying t'=some (.slice e))(hT:TyF P e agg z size bytes)
  (hx:ev l x=some (.slice ao nn c)) (hlo:evOpt l lo 0=some (L:Int)) (hhi:evOpt l hi (nn:Int)=some (H:Int)) (b2':L≤H) (hn1:H≤c) (hv:cutv ao c size L H=V) (hd:Nat.blt d n=true)
  (h:SXO P ro n D M0 w0 Q ops rest ((d,V)::l) B R F m r):SXO P ro n D M0 w0 Q ops (⟨some d,.slice t' x lo hi none,t,pos,af,gd⟩::rest) l B R F m r :=
 qZ V hw rfl hd (fun a w hf _=>qt3 (P:=P) (B:=[]) (F:=[]) ht hT hx hlo hhi b2' hn1 hv n D a w hf ⟨by simp,by simp⟩) h
def HN {γ:Type}(inn:α×γ→List (World→Prop))(x:List α)(zs:List (α×γ))(w:World):Prop:=zs.map (·.1)=x∧∀ p∈zs,∀ φ∈inn p,φ w
def insK {β:Type}(k:Int)(l:List β)(y:β):List β:=l.take k.toNat++y::l.drop k.toNat
section hn
variable {γ:Type} {inn:α×γ→List (World→Prop)} {x:List α} {zs:List (α×γ)}
def popM {α:Type}:List α→Option (α×List α) | y::t=>some (y,t) | []=>none
end hn
end rules
end SX
namespace SX
open Go
def cutP {α:Type}(Y:List α)(k:Int):Option (List α×List α):=if 0≤k∧k≤Y.length then some (Y.take k.toNat,Y.drop k.toNat) else none
theorem qg1 {α:Type}{enc:α→List Value}{size:Nat}(henc:EncOk enc size){ao:Option Addr}{c:Nat}{xs ts:List α}{w:World}(h:Sl enc size (.slice ao (xs++ts).length c) (xs++ts) w):Sl enc size (.slice ao xs.length c) xs w:=by
 obtain ⟨⟨a,cap,e1,hn,hm,hs,hc⟩,hl⟩:=h
 simp only[Value.slice.injEq,true_and] at e1
 obtain ⟨rfl,rfl⟩:=e1
 have hlen:(xs++ts).length=xs.length+ts.length:=qvN
 have hfl:=yc henc xs
 refine ⟨⟨ao,c,rfl,by omega,by omega,fun ad had=>?_,fun j u hj=>?_⟩,hfl⟩
 ·by_cases h0:xs.flatMap enc=[]
  ·exact .inl h0
  ·rcases hs ad had with h2 | h2
   ·rw[qwt] at h2
    exact absurd (List.append_eq_nil_iff.1 h2).1 h0
   ·exact .inr h2
 ·refine hc j u ?_
  rw[qwt,qw4 (qvW.1 hj).1]
  exact hj
theorem qcs {α:Type}{enc:α→List Value}{size e:Nat}(henc:EncOk enc size){ao:Option Addr}{c:Nat}{xs ts:List α}:∀ w:World,(Ro enc e size (.slice ao (xs++ts).length c) (xs++ts)).owns w→Sl enc size (.slice ao xs.length c) xs w :=
 fun _ h=>qg1 henc (zU h.1)
section rules
variable {P:Program} {ro:Option Nat} {n:Nat} {D:List Deferred} {M0:List Nat} {w0:World} {Q:Exit→Act→World→Prop} {ρ:Type}
variable {ops:Array Oper} {rest:List Oper} {l:Env} {B:List BlkD} {R:List RowD} {F:List (World→Prop)} {m:Option ρ} {r:ρ}
variable {d:Nat} {t t' e:TypeId} {pos:String} {af:Array Edge} {gd:Option (Nat×Bool)} {agg:Bool} {z:Value} {size bytes:Nat} {α:Type} {enc:α→List Value}
theorem Hp.moreF {w:World}{φ ψ:World→Prop}{j:Nat}(hp:Hp M0 w0 w B R F)(hF:F[j]?=some φ)(h:∀ w,φ w→ψ w):Hp M0 w0 w B R (ψ::F) :=
 { hp with per:=fun χ hχ=>(qvR.1 hχ).elim (fun e=>e▸fun w' hk=>h w' (hp.per φ (qvO hF) w' hk)) (hp.per χ) }
theorem qmQ {c:Code}{ao:Option Addr}{cc:Nat}{xs ts:List α}(j:Nat)(henc:EncOk enc size)(hF:F[j]?=some (Sl enc size (.slice ao (xs++ts).length cc) (xs++ts)))
  (h:SXC P ro n D M0 w0 Q c l B R (Sl enc size (.slice ao xs.length cc) xs::F) m r):SXC P ro n D M0 w0 Q c l B R F m r :=
 fun hm a w hf hp=>h hm a w hf (hp.moreF hF fun _=>qg1 henc)
theorem qtr {w:World}{ao:Option Addr}{c:Nat}{Y:List α}(h:(Ro enc e size (.slice ao Y.length c) Y).own w):Y.length≤c:=by
 rcases h.2 with ⟨h5,h6⟩ | ⟨g',cap,cur,h5,_,hgg,hnc,_⟩
 ·have h6':Y.length=0:=h6
  omega
 ·have h5':Value.slice ao Y.length c=.slice (some ⟨g',0,none⟩) Y.length cap:=h5
  simp only[Value.slice.injEq,true_and] at h5'
  have hnc':Y.length≤cap:=hnc
  omega
theorem cutv0 {ao:Option Addr}{c size H:Nat}(h:∀ a,ao=some a→a.add 0=a):cutv ao c size ((0:Nat):Int) (H:Int)=.slice ao H c:=by
 unfold cutv
 cases ao with
 | none=>simp
 | some a=>simp[h a rfl]
theorem qso {Y:List α}{k:List α×List α→Option ρ}{x:Operand}{hi:Option Operand}{hj:Int}{ao:Option Addr}{c i:Nat}
  (hw:wants ops l ⟨some d,.slice t' x none hi none,t,pos,af,gd⟩=some true) (ht:P.underlying t'=some (.slice e)) (hT:TyF P e agg z size bytes) (hx:ev l x=some (.slice ao Y.length c))
  (hhi:evOpt l hi (Y.length:Int)=some hj) (hR:R[i]?=some (Ro enc e size (.slice ao Y.length c) Y)) (hd:Nat.blt d n=true)
  (h:∀ q,cutP Y hj=some q→SXO P ro n D M0 w0 Q ops rest ((d,.slice ao q.1.length c)::l) B (R.set i (Ro enc e size (.slice ao (q.1++q.2).length c) (q.1++q.2))) F (k q) r) :
  SXO P ro n D M0 w0 Q ops (⟨some d,.slice t' x none hi none,t,pos,af,gd⟩::rest) l B R F ((cutP Y hj).bind k) r:=by
 intro hm a w hf hp
 cases hq:cutP Y hj with
 | none=>rw[hq] at hm;simp at hm
 | some q =>
  rw[hq] at hm
  have hm':k q=some r:=by simpa using hm
  have h2:=h q hq
  unfold cutP at hq
  split at hq
  ·rename_i hb
   simp only[qvY] at hq
   obtain ⟨H,rfl⟩:=qvS hb.1
   have hown:=hp.row _ (qvO hR)
   have hcap:=qtr hown
   have e1:q.1++q.2=Y:=by rw[← hq];exact qwD _ _
   have e2:q.1.length=H:=by rw[← hq];simp;omega
   rw[e1,e2] at h2
   have e3:R.set i (Ro enc e size (.slice ao Y.length c) Y)=R:=by
    obtain ⟨hl,hv⟩:=qvW.1 hR
    rw[← hv]
    exact List.set_getElem_self hl
   rw[e3] at h2
   refine qmS (L:=0) (H:=H) hw ht hT hx rfl hhi (qwn _) (by omega) (cutv0 fun ad had=>?_) hd h2 hm' a w hf hp
   rcases hown.2 with ⟨h5,h6⟩ | ⟨g,cap,cur,h5,_⟩
   ·have h5':Value.slice ao Y.length c=.slice none 0 0:=h5
    simp only[Value.slice.injEq] at h5'
    rw[h5'.1] at had;simp at had
   ·have h5':Value.slice ao Y.length c=.slice (some ⟨g,0,none⟩) Y.length cap:=h5
    simp only[Value.slice.injEq,true_and] at h5'
    rw[h5'.1] at had
    simp only[qvY] at had
    subst had
    rw[qcl]
  ·simp at hq
theorem qi2 {xs ts:List α}{x:Operand}{hi:Option Operand}{hj:Int}{ao:Option Addr}{c j:Nat}(henc:EncOk enc size)(hs0:size≠0)(hts:0<ts.length)
  (hw:wants ops l ⟨some d,.slice t' x none hi none,t,pos,af,gd⟩=some true) (ht:P.underlying t'=some (.slice e)) (hT:TyF P e agg z size bytes) (hx:ev l x=some (.slice ao xs.length c))
  (hhi:evOpt l hi (xs.length:Int)=some hj) (hF:F[j]?=some (Sl enc size (.slice ao (xs++ts).length c) (xs++ts))) (hd:Nat.blt d n=true)
  (h:SXO P ro n D M0 w0 Q ops rest ((d,.slice ao (xs++ts).length c)::l) B R F m r) :
  SXO P ro n D M0 w0 Q ops (⟨some d,.slice t' x none hi none,t,pos,af,gd⟩::rest) l B R F (chk (decide (hj=((xs++ts).length:Int))) m) r:=by
 refine qlq fun hc=>?_
 replace hc:=of_decide_eq_true hc
 subst hc
 intro hm a w hf hp
 have hS:=(hp.per _ (qvO hF)).here
 obtain ⟨⟨a1,cap,e1,hn,hm1,hs,hc⟩,hl⟩:=hS
 simp only[Value.slice.injEq,true_and] at e1
 obtain ⟨rfl,rfl⟩:=e1
 refine qmS (L:=0) (H:=(xs++ts).length) hw ht hT hx rfl hhi (qwn _) hn (cutv0 fun ad had=>?_) hd h hm a w hf hp
 rcases hs ad had with h2 | h2
 ·have h3:=yc henc (xs++ts)
  rw[h2] at h3
  simp only[List.length_nil,qvN] at h3
  rcases Nat.mul_eq_zero.1 h3.symm with h4 | h4
  ·omega
  ·exact absurd h4 hs0
 ·obtain ⟨b,o,sp⟩:=ad
  simp only at h2
  subst h2
  rw[qcl]
  simp
theorem qpn {x c:Operand}{kl kc:IntKind}{i:Int}{lim:Nat}(_henc:EncOk enc 1)
  (hw:wants ops l ⟨some d,.makeSlice t' x c,t,pos,af,gd⟩=some true) (ht:P.underlying t'=some (.slice e)) (hT:TyF P e agg z 1 bytes) (hx:ev l x=some (.int kl 0)) (hc:ev l c=some (.int kc i))
  (hlim:Nat.ble lim 9223372036854775807=true) (hlb:Nat.ble (lim*bytes) 281474976710656=true) (hd:Nat.blt d n=true)
  (h:∀ a c,SXO P ro n D M0 w0 Q ops rest ((d,.slice a ([]:List α).length c)::l) B (Ro enc e 1 (.slice a ([]:List α).length c) []::R) F m r) :
  SXO P ro n D M0 w0 Q ops (⟨some d,.makeSlice t' x c,t,pos,af,gd⟩::rest) l B R F (chk (decide (0≤i∧i≤(lim:Int))) m) r:=by
 refine qlq fun hb=>?_
 replace hb:=of_decide_eq_true hb
 refine qaA hw fun hm a w hf hp=>?_
 obtain ⟨N,rfl⟩:=qvS hb.1
 have hN:N≤lim:=by omega
 have hlim':=qwF hlim
 have hlb':=qwF hlb
 obtain ⟨i0,hi,hz0,hs0',hb0⟩:=hT.inf
 subst hb0
 have h1:=hf.ev hx
 have h2:=hf.ev hc
 have hmb:((N*i0.bytes:Nat):Int)≤281474976710656:=by
  have:=Nat.le_trans (Nat.mul_le_mul_right i0.bytes hN) hlb'
  omega
 rw[Int.natCast_mul,Int.mul_comm] at hmb
 have hr:=run_make (P:=P) w t' e i0 z ht hi hz0 kl kc 0 N (by omega) (by omega) hmb (by omega)
 rw[Int.toNat_natCast,hs0'] at hr
 have ho:(w.alloc (.cells (madeCells z.cells (N*1)) e)).ownsRow 0 e 1 (.slice (some ⟨w.heap.size,0,none⟩) 0 N) 0 [] :=
  ⟨by simp,.inr ⟨w.heap.size,N,madeCells z.cells (N*1),rfl,qwn _,heap_alloc_new w _,qwn _,by simp only[maxLen];omega,size_madeCells _ _,by simp⟩⟩
 have hz:=h (some ⟨w.heap.size,0,none⟩) N
 refine ⟨_,w.alloc (.cells (madeCells z.cells (N*1)) e),?_,hz hm _ _ (hf.put hd (.slice (some ⟨w.heap.size,0,none⟩) 0 N)) (hp.addRow (Keeps.alloc [] w _) ?_ ?_)⟩
 ·generalize a.eval=ε at h1 h2 ⊢
  simp[execOp,h1,h2,hr]
 ·exact ho
 ·intro g hg'
  simp[Ro,Value.ownBlock] at hg'
  omega
theorem qmt {β:Type}{hs hs':List Nat}(h:∀ x∈hs,x∈hs'):∀ (k:Nat) (l:List β),(outs hs' k l).Sublist (outs hs k l)
 | _,[]=>qv9 _
 | k,x::t=>by
  show (if k∈hs' then outs hs' (k+1) t else x::outs hs' (k+1) t).Sublist (if k∈hs then outs hs (k+1) t else x::outs hs (k+1) t)
  have ih:=qmt h (k+1) t
  by_cases h1:k∈hs
  ·rw[if_pos h1,if_pos (h k h1)];exact ih
  ·rw[if_neg h1]
   by_cases h2:k∈hs'
   ·rw[if_pos h2];exact ih.cons x
   ·rw[if_neg h2];exact ih.cons_cons x
theorem qgv {β γ:Type}(f:β→List γ){A C:List β}(h:A.Sublist C):(A.flatMap f).Sublist (C.flatMap f):=by
 induction h with
 | slnil=>exact qv9 _
 | cons a _ ih=>rw[qvX];exact ih.trans (List.sublist_append_right _ _)
 | cons_cons a _ ih=>rw[qvX,qvX];exact qxs (qv9 _) ih
theorem Hp.deadN {w:World}{β γ:Type}{enc:β×γ→List Value}{rin:β×γ→List RowF}{e size i:Nat}{v:Value}{xs:List β}{gs:List γ}{hs hs':List Nat}(h:Hp M0 w0 w B R F)(hR:R[i]?=some (RoN enc rin e size v xs gs hs))(hsub:∀ x∈hs,x∈hs')(hnd:hs'.Nodup) :
  Hp M0 w0 w B (R.set i (RoN enc rin e size v xs gs hs')) F:=by
 obtain ⟨hl,_⟩:=h.nestOk hR
 obtain ⟨hlt,hv⟩:=qvW.1 hR
 obtain ⟨A,C,hAC,hset⟩:∃ A C,R=A++RoN enc rin e size v xs gs hs::C∧R.set i (RoN enc rin e size v xs gs hs')=A++RoN enc rin e size v xs gs hs'::C :=
  ⟨R.take i,R.drop (i+1),by rw[← hv,List.getElem_cons_drop,qwD],by rw[List.set_eq_take_append_cons_drop,if_pos hlt]⟩
 have hso:=qmt hsub 0 (xs.zip gs)
 have hbl:((RoN enc rin e size v xs gs hs').blocks).Sublist ((RoN enc rin e size v xs gs hs).blocks):=by
  rw[kL,kL]
  exact qxs (qv9 _) ((qgv rin hso).filterMap _)
 have hmu:(muts B (R.set i (RoN enc rin e size v xs gs hs'))).Sublist (muts B R):=by
  unfold muts
  refine qxs (qv9 _) ?_
  rw[hset]
  conv=>rhs;rw[hAC]
  rw[qwt,qwt,qvX,qvX]
  exact qxs (qv9 _) (qxs hbl (qv9 _))
 have hrow:=h.rows _ (qvO hR)
 refine { keep:=h.keep,blk:=h.blk,rows:=fun r hr=>?_,nodup:=hmu.nodup h.nodup,fresh:=fun g hg=>h.fresh g (hmu.subset hg),per:=fun φ hφ=>(h.per φ hφ).less fun k hk=>hmu.subset hk }
 rw[hset] at hr
 have hmem:∀ r,r∈A∨r∈C→r.owns w:=fun r hr=>h.rows r (by rw[hAC];rcases hr with hr | hr <;> simp[hr])
 rcases List.mem_append.1 hr with hr | hr
 ·exact hmem r (.inl hr)
 ·rcases qvR.1 hr with rfl | hr
  ·refine ⟨hrow.1,fun f hf=>?_⟩
   rcases qvR.1 hf with rfl | hf
   ·exact qa7.2 (by simp[hl,hnd])
   ·exact hrow.2 f (List.mem_cons_of_mem _ ((qgv rin hso).subset hf))
  ·exact hmem r (.inr hr)
theorem qqa {β γ:Type}{enc:β×γ→List Value}{rin:β×γ→List RowF}{e size:Nat}{v:Value}{xs:List β}{gs:List γ}{hs:List Nat}(i:Nat)(d':Int)(hR:R[i]?=some (RoN enc rin e size v xs gs hs))(hsub:∀ x∈hs,x∈qwm d'.toNat)
  (h:SXO P ro n D M0 w0 Q ops rest l B (R.set i (RoN enc rin e size v xs gs (qwm d'.toNat))) F m r):SXO P ro n D M0 w0 Q ops rest l B R F m r :=
 fun hm a w hf hp=>h hm a w hf (hp.deadN hR hsub List.nodup_range)
theorem qqI {i d d':Int}(h:decide (d.toNat≤d'.toNat∧i.toNat<d'.toNat)=true):∀ x∈i.toNat::qwm d.toNat,x∈qwm d'.toNat:=by
 have h:=of_decide_eq_true h
 intro x hx
 rw[qxB]
 rcases qvR.1 hx with rfl | hx
 ·exact h.2
 ·have:=qxB.1 hx;omega
theorem qh9 {i d:Int}(h:decide (d.toNat≤i.toNat)=true):i.toNat∉qwm d.toNat:=by
 have h:=of_decide_eq_true h
 rw[qxB]
 omega
theorem qst {xs ts0 ts:List α}{ao:Option Addr}{c:Nat}(i:Nat)(he:ts0=ts)(hR:R[i]?=some (Ro enc e size (.slice ao (xs++ts0).length c) (xs++ts0)))
  (h:SXO P ro n D M0 w0 Q ops rest l B (R.set i (Ro enc e size (.slice ao (xs++ts).length c) (xs++ts))) F m r):SXO P ro n D M0 w0 Q ops rest l B R F m r:=by
 subst he
 have e3:R.set i (Ro enc e size (.slice ao (xs++ts0).length c) (xs++ts0))=R:=by
  obtain ⟨hl,hv⟩:=qvW.1 hR
  rw[← hv]
  exact List.set_getElem_self hl
 rw[e3] at h
 exact h
end rules
theorem qtx {β γ:Type}{enc:β×γ→List Value}{inn inn':β×γ→List (World→Prop)}{size:Nat}{v:Value}{xs:List β}{gs:List γ}{w:World}(h:∀ p w,(∀ φ∈inn p,φ w)→∀ φ∈inn' p,φ w)(hs:SlN enc inn size v xs gs w):SlN enc inn' size v xs gs w :=
 ⟨hs.1,hs.2.1,fun p hp=>h p w (hs.2.2 p hp)⟩
end SX
namespace SX
open Go Go.ChangeShapes Go.WideShapes Go.ChangeAt Go.RowKit Go.Joins Go.Deep
variable {H:Type} {enc:TypeId×Value→H} {P:Program}
theorem qgW {W:World}{base:Nat}{t:TypeId}{ts:List TypeId}{fs:Array Field}{cs:Array Value}(hs:P.underlying t=some (.struct fs))(hts:P.cellTypes P.depth t=some ts)(hv:Value.okWide P W .any base t (.agg cs)) :
  ∀ i v u,i<ts.length→cs[i]?=some v→ts[i]?=some u→Cell.okWide P W .any base u v:=by
 unfold Value.okWide at hv
 rw[hs] at hv
 obtain ⟨cs',he,_,ts',h1,_,h2⟩:=hv
 cases he
 rw[hts] at h1
 cases h1
 intro i v u hi hc hu
 obtain ⟨u',h3,h4⟩:=h2 i v hc
 rw[qwj hi,hu] at h3
 cases h3
 exact h4
theorem qjy {W:World}{base:Nat}{t e:TypeId}{f0 f1:Field}{k0 k1:IntKind}{v:Value}{d:DataW H}{p:List MemPlace}(hs:P.underlying t=some (.struct #[f0,f1]))(hone:oneCellFields P #[f0,f1]=true)(hC:P.cellsOf t=2)(hts:P.cellTypes P.depth t=some [f0.type,f1.type])
  (h0:P.underlying f0.type=some (.int k0)) (h1:P.underlying f1.type=some (.slice e)) (he:P.underlying e=some (.int k1)) (hc:P.cellsOf e=1)
  (hval:Value.okWide P W .any base t v) (h:DataW.Trod enc P W 0 (fun _=>true) true t v d p) :
  ∃ (n:Int) (a:Option Addr) (cap:Nat) (xs:List Int),v=.agg #[.int k0 n,.slice a xs.length cap]∧(Lit.int k0 n).wf=true∧Nec W [] (Sl (eI k1) 1 (.slice a xs.length cap) xs)∧(∀ n∈xs,(Lit.int k1 n).wf=true)∧xs.length≤maxLen:=by
 obtain ⟨v0,v1,y0,y1,n,rfl,rfl,rfl,t0,t1⟩:=open_agg2 hs hone hC hval h
 have hcell:=qgW hs hts hval
 have c0:=hcell 0 v0 f0.type (by simp) rfl rfl
 have c1:=hcell 1 v1 f1.type (by simp) rfl rfl
 have o0:Value.okWide P W .any base f0.type v0:=by unfold Value.okWide;rw[h0];exact c0
 have o1:Value.okWide P W .any base f1.type v1:=by unfold Value.okWide;rw[h1];exact c1
 have v0c:v0.cells=#[v0]:=by
  obtain ⟨x,rfl⟩:=okWide_int h0 o0
  rfl
 have v1c:v1.cells=#[v1]:=by
  obtain ⟨a,l,c,rfl⟩:=okWide_slice h1 o1
  rfl
 obtain ⟨x,rfl,_,_,wx⟩:=open_int h0 o0 (d:=y0.1) (ps:=y0.2) ⟨n,by rw[v0c];exact t0⟩
 obtain ⟨a,cap,xs,rfl,hn,hw,hm⟩:=qh5 h1 he hc o1 (d:=y1.1) (p:=y1.2) ⟨n,by rw[v1c];exact t1⟩
 exact ⟨x,a,cap,xs,rfl,wx,hn,hw,hm⟩
end SX
namespace SX
open Go Go.ChangeShapes Go.WideShapes Go.ChangeAt Go.RowKit Go.Joins Go.Deep
variable {H:Type} {enc:TypeId×Value→H} {P:Program}
theorem qeV {w:World}{base:Nat}{spare:Nat→Bool}{held:Bool}{t:TypeId}{fs:Array Field}{fuel:Nat}{cs cs':List Value}{x:DataW H×List MemPlace}{i k:Nat}{f:Field}(ht:P.underlying t=some (.struct fs))(hi:fs[i]?=some f)(hk:P.cellsOf f.type=k)(hc:(cs.drop f.offset).take k=cs')(h:DataW.trod enc P w base spare held fuel t cs=some x) :
  ∃ n y,DataW.trod enc P w base spare held n f.type cs'=some y:=by
 obtain ⟨xs,n,_,rfl,hl,hlen,hf⟩:=DataW.trod_struct ht h
 have h1:=hf i f hi
 obtain ⟨hlt,_⟩:=Array.getElem?_eq_some_iff.1 hi
 have hlt':i<xs.length:=by omega
 refine ⟨n,xs[i],?_⟩
 rw[← hc,← hk,h1,qvL hlt']
theorem qin {W:World}{base n:Nat}{t:TypeId}{k:IntKind}{v:Value}{y:DataW H×List MemPlace}(h0:P.underlying t=some (.int k))(hc:Cell.okWide P W .any base t v)(h:DataW.trod enc P W 0 (fun _=>true) true n t [v]=some y) :
  ∃ x,v=.int k x∧(Lit.int k x).wf=true:=by
 have o0:Value.okWide P W .any base t v:=by unfold Value.okWide;rw[h0];exact hc
 have vc:v.cells=#[v]:=by
  obtain ⟨x,rfl⟩:=okWide_int h0 o0
  rfl
 obtain ⟨x,rfl,_,_,wx⟩:=open_int h0 o0 (d:=y.1) (ps:=y.2) ⟨n,by rw[vc];exact h⟩
 exact ⟨x,rfl,wx⟩
theorem arr1 {α:Type}{cs:Array α}(h:cs.size=1):∃ c0,cs=#[c0]:=by
 obtain ⟨l⟩:=cs
 match l,h with
 | [c0],_=>exact ⟨c0,rfl⟩
theorem arr3 {α:Type}{cs:Array α}(h:cs.size=3):∃ c0 c1 c2,cs=#[c0,c1,c2]:=by
 obtain ⟨l⟩:=cs
 match l,h with
 | [c0,c1,c2],_=>exact ⟨c0,c1,c2,rfl⟩
end SX
namespace SX
open Go Go.ChangeShapes Go.WideShapes Go.ChangeAt Go.RowKit Go.Joins Go.Deep
theorem qhw {α:Type}{enc:α→List Value}{size:Nat}(h:EncOk enc size)(h0:0<size):∀ (xs:List α) (j:Nat) (u:Value),(xs.flatMap enc)[j]?=some u→∃ x,xs[j/size]?=some x∧(enc x)[j%size]?=some u
 | [],j,u,hj=>by simp at hj
 | x::xs,j,u,hj=>by
  rw[qvX] at hj
  by_cases hlt:j<size
  ·rw[qw4 (by rw[h.len];exact hlt)] at hj
   exact ⟨x,by rw[Nat.div_eq_of_lt hlt];rfl,by rw[qwj hlt];exact hj⟩
  ·rw[List.getElem?_append_right (by rw[h.len];omega),h.len] at hj
   obtain ⟨y,h1,h2⟩:=qhw h h0 xs (j-size) u hj
   have e1:j/size=(j-size)/size+1:=by
    rw[← Nat.add_div_right _ h0];congr 1;omega
   have e2:j%size=(j-size)%size:=Nat.mod_eq_sub_mod (by omega)
   exact ⟨y,by rw[e1,List.getElem?_cons_succ];exact h1,by rw[e2];exact h2⟩
variable {H:Type} {enc:TypeId×Value→H} {P:Program}
theorem qpC {α:Type}{enc':α→List Value}{good:α→Prop}{size:Nat}(henc:EncOk enc' size)(h0:0<size){W:World}{base:Nat}{t e:TypeId}{v:Value}{d:DataW H}{p:List MemPlace}(ht:P.underlying t=some (.slice e))(hc:P.cellsOf e=size)
  (hopen:∀ n cs y,DataW.trod enc P W 0 (fun _=>true) true n e cs=some y→cs.length=size→∃ x:α,cs=enc' x∧good x)
  (hval:Value.okWide P W .any base t v) (h:DataW.Trod enc P W 0 (fun _=>true) true t v d p) :
  ∃ (a:Option Addr) (cap:Nat) (xs:List α),v=.slice a xs.length cap∧Nec W [] (Sl enc' size v xs)∧(∀ x∈xs,good x)∧xs.length≤maxLen:=by
 obtain ⟨a0,len0,cap0,rfl⟩:=okWide_slice ht hval
 obtain ⟨fuel,hf⟩:=h
 rcases open_slice ht hf with ⟨hcs,_⟩ | ⟨a,len,cap,m,n,D,Pl,hcs,_,hle,hmax,hmm,_,hx⟩
 ·simp[Value.cells] at hcs
  obtain ⟨rfl,rfl,rfl⟩:=hcs
  refine ⟨none,0,[],rfl,qcO ⟨⟨none,0,rfl,qv3 _,by simp,by simp,fun j u hj=>by simp at hj⟩,by simp⟩ (by simp),by simp,by simp⟩
 ·simp[Value.cells] at hcs
  obtain ⟨rfl,rfl,rfl⟩:=hcs
  simp only[if_true] at hmm
  subst hmm
  have hspot:a.spot=none:=by
   have hv:Cell.okWide P W .any base t (.slice (some a) len0 m):=by
    unfold Value.okWide at hval
    rw[ht] at hval
    exact hval
   unfold Cell.okWide Cell.ok at hv
   rw[ht] at hv
   simp only at hv
   exact hv.2.2.2.1
  have each:∀ i,i<m→∃ x:α,W.cells? 0 (a.add (i*size)) size=some (enc' x)∧good x:=by
   intro i hi
   obtain ⟨cs',h1,h2⟩:=hx i hi
   rw[hc] at h1
   obtain ⟨x,rfl,hg⟩:=hopen n cs' _ h2 (World.cells?_some h1).2.1
   exact ⟨x,h1,hg⟩
  by_cases hm0:m=0
  ·subst hm0
   have hl0:len0=0:=by omega
   subst hl0
   refine ⟨some a,0,[],rfl,qcO ⟨⟨some a,0,rfl,qv3 _,by simp,fun ad e=>by cases e;exact .inr hspot,fun j u hj=>by simp at hj⟩,by simp⟩ (fun ad l c e hne=>absurd rfl hne),by simp,by simp⟩
  ·obtain ⟨x0,_⟩:=each 0 (by omega)
   haveI:Inhabited α:=⟨x0⟩
   obtain ⟨X,hX⟩:=choose_lt each
   have hL:((qwm len0).map X).length=len0:=by simp
   have hcell:∀ j u,(((qwm len0).map X).flatMap enc')[j]?=some u→W.cell? ⟨a.block,a.off+j,none⟩=some u:=by
    intro j u hj
    obtain ⟨x,h1,h2⟩:=qhw henc h0 _ j u hj
    rw[qwK] at h1
    cases hr:(qwm len0)[j/size]? with
    | none=>rw[hr] at h1;simp at h1
    | some i =>
     rw[hr] at h1
     simp only[qwo,qvY] at h1
     subst h1
     have hi:=(qvW.1 hr)
     obtain ⟨hi1,hi2⟩:=hi
     simp only[List.length_range] at hi1
     simp only[List.getElem_range] at hi2
     subst hi2
     obtain ⟨_,_,hcl⟩:=World.cells?_some (hX (j/size) (by omega)).1
     have hmod:j%size<size:=Nat.mod_lt _ h0
     have:=hcl (j%size) hmod
     rw[h2] at this
     rw[qdF _ _ hspot,qcl] at this
     rw[← this]
     congr 2
     rw[Nat.add_assoc,Nat.div_add_mod' j size]
   refine ⟨some a,m,(qwm len0).map X,by rw[hL],?_,?_,by rw[hL];omega⟩
   ·refine qcO ⟨⟨some a,m,by rw[hL],by rw[hL];exact hle,hmax,fun ad e=>by cases e;exact .inr hspot,fun j u hj=>⟨a,rfl,hcell j u hj⟩⟩,yc henc _⟩ fun ad l c e hne=>?_
    cases e
    have hpos:0<(((qwm len0).map X).flatMap enc').length:=List.length_pos_iff.2 hne
    have:=hcell 0 _ (qvL hpos)
    unfold World.cell? at this
    cases hh:W.heap[a.block]? with
    | none=>simp only[hh] at this;simp at this
    | some o=>exact (Array.getElem?_eq_some_iff.1 hh).1
   ·intro x hx'
    obtain ⟨i,hi,rfl⟩:=qwy.1 hx'
    exact (hX i (by have:=qxB.1 hi;omega)).2
end SX
namespace SX
open Go Go.ChangeShapes Go.WideShapes Go.ChangeAt Go.RowKit Go.Joins Go.Deep
variable {H:Type} {enc:TypeId×Value→H} {P:Program}
theorem qns {W:World}{base n:Nat}{t e e2:TypeId}{k:IntKind}{v:Value}{y:DataW H×List MemPlace}{en:List Int×(Option Addr×Nat)→List Value}{inn:List Int×(Option Addr×Nat)→List (World→Prop)}(henc:EncOk en 1)(hen:∀ p,en p=[.slice p.2.1 p.1.length p.2.2])(hin:∀ p,inn p=[Sl (eI k) 1 (.slice p.2.1 p.1.length p.2.2) p.1])
  (ht:P.underlying t=some (.slice e)) (he:P.underlying e=some (.slice e2)) (he2:P.underlying e2=some (.int k)) (hc1:P.cellsOf e=1) (hc2:P.cellsOf e2=1) (hc:Cell.okWide P W .any base t v)
  (h:DataW.trod enc P W 0 (fun _=>true) true n t [v]=some y) :
  ∃ (a:Option Addr) (cap:Nat) (xs:List (List Int)) (gs:List (Option Addr×Nat)),v=.slice a xs.length cap∧Nec W [] (SlN en inn 1 (.slice a xs.length cap) xs gs)∧(∀ l∈xs,(∀ n∈l,(Lit.int k n).wf=true)∧l.length≤maxLen)∧xs.length≤maxLen:=by
 have o1:Value.okWide P W .any base t v:=by unfold Value.okWide;rw[ht];exact hc
 have vc:v.cells=#[v]:=by
  obtain ⟨a,l,c,rfl⟩:=okWide_slice ht o1
  rfl
 have hopen:∀ n cs y,DataW.trod enc P W 0 (fun _=>true) true n e cs=some y→cs.length=1→∃ x:List Int×(Option Addr×Nat),cs=en x∧(Nec W [] (Sl (eI k) 1 (.slice x.2.1 x.1.length x.2.2) x.1)∧(∀ n∈x.1,(Lit.int k n).wf=true)∧x.1.length≤maxLen):=by
  intro n cs y hy hl
  match cs,hl with
  | [c0],_ =>
   rcases open_ints he he2 hc2 hy with ⟨hcs,_⟩ | ⟨a,len,cap,zs,hcs,_,hle,hmax,hlen,_,hcell,hwf⟩
   ·simp only[qxi,and_true] at hcs
    subst hcs
    exact ⟨([],(none,0)),by rw[hen];rfl,qcO ⟨⟨none,0,rfl,qv3 _,by simp,by simp,fun j u hj=>by simp at hj⟩,by simp⟩ (by simp),by simp,by simp⟩
   ·simp only[qxi,and_true] at hcs
    subst hcs
    simp only[if_true] at hlen
    have hL:(zs.take len).length=len:=by rw[qwb];omega
    have hfm:∀ (l:List Int),l.flatMap (eI k)=l.map (fun x=>Value.int k x):=by
     intro l
     induction l with
     | nil=>rfl
     | cons x l ih=>simp[eI,ih]
    have hspot:zs≠[]→a.spot=none:=by
     intro hne
     obtain ⟨z,zs',rfl⟩:=List.exists_cons_of_ne_nil hne
     have:=hcell 0 (by simp)
     unfold World.cell? at this
     have e0:(a.add 0).spot=a.spot:=by simp[Addr.add]
     cases hh:W.heap[(a.add 0).block]? with
     | none=>rw[hh] at this;simp at this
     | some o =>
      rw[hh] at this
      cases o with
      | cells c _ _ =>
       simp only[e0] at this
       cases hs:a.spot with
       | none=>rfl
       | some q=>rw[hs] at this;simp at this
      | _=>simp at this
    have hj0:∀ j u,((zs.take len).flatMap (eI k))[j]?=some u→W.cell? ⟨a.block,a.off+j,none⟩=some u:=by
     intro j u hj
     rw[hfm,qwK] at hj
     cases hz:(zs.take len)[j]? with
     | none=>rw[hz] at hj;simp at hj
     | some x =>
      rw[hz] at hj
      simp only[qwo,qvY] at hj
      subst hj
      have hj1:=(qvW.1 hz).1
      have hj2:j<zs.length:=by rw[qwb] at hj1;omega
      have hne:zs≠[]:=by rintro rfl;simp at hj2
      have:=hcell j hj2
      have hx:zs.getD j 0=x:=by
       rw[List.getElem?_take_of_lt (by rw[qwb] at hj1;omega)] at hz
       simp[List.getD,hz]
      rw[hx,qdF _ _ (hspot hne)] at this
      exact this
    refine ⟨(zs.take len,(some a,cap)),by rw[hen,hL],?_,fun n hn=>hwf n (List.mem_of_mem_take hn),by show (zs.take len).length≤_;rw[hL];omega⟩
    refine qcO ⟨⟨some a,cap,rfl,by show (zs.take len).length≤cap;rw[hL];exact hle,hmax,fun ad e=>?_,fun j u hj=>⟨a,rfl,hj0 j u hj⟩⟩,by rw[hfm];simp⟩ fun ad l c e hne=>?_
    ·cases e
     by_cases hz:(zs.take len).flatMap (eI k)=[]
     ·exact .inl hz
     ·exact .inr (hspot (by rintro rfl;simp at hz))
    ·cases e
     have hpos:=List.length_pos_iff.2 hne
     have:=hj0 0 _ (qvL hpos)
     unfold World.cell? at this
     cases hh:W.heap[a.block]? with
     | none=>simp only[hh] at this;simp at this
     | some o=>exact (Array.getElem?_eq_some_iff.1 hh).1
 obtain ⟨a,cap,ps,hv,hs,hg,hm⟩:=qpC (good:=fun x:List Int×(Option Addr×Nat)=>Nec W [] (Sl (eI k) 1 (.slice x.2.1 x.1.length x.2.2) x.1)∧(∀ n∈x.1,(Lit.int k n).wf=true)∧x.1.length≤maxLen) henc (by decide) ht hc1 hopen o1 (d:=y.1) (p:=y.2) ⟨n,by rw[vc];exact h⟩
 have hz:(ps.map (·.1)).zip (ps.map (·.2))=ps:=by
  have:∀ ps:List (List Int×(Option Addr×Nat)),(ps.map (·.1)).zip (ps.map (·.2))=ps:=by
   intro ps
   induction ps with
   | nil=>rfl
   | cons p ps ih=>rw[List.map_cons,List.map_cons,List.zip_cons_cons,ih]
  exact this ps
 refine ⟨a,cap,ps.map (·.1),ps.map (·.2),by rw[qwO];exact hv,fun w' hk=>⟨by simp,?_,fun p hp φ hφ=>?_⟩,fun l hl=>?_,by rw[qwO];exact hm⟩
 ·rw[hz,qwO,← hv]
  exact hs w' hk
 ·rw[hz] at hp
  rw[hin] at hφ
  simp only[List.mem_singleton] at hφ
  subst hφ
  exact (hg p hp).1 w' hk
 ·obtain ⟨p,hp,rfl⟩:=qwy.1 hl
  exact (hg p hp).2
end SX
namespace SX
open Go Go.ChangeShapes Go.WideShapes Go.ChangeAt Go.RowKit Go.Joins Go.Deep
variable {H:Type} {enc:TypeId×Value→H} {P:Program}
end SX
namespace SX
open Go
theorem kE {n:Int}(h1:-9223372036854775808≤n)(h2:n<9223372036854775808):IntKind.wrap .i64 n=n:=by
 unfold IntKind.wrap
 simp only[IntKind.bits,IntKind.signed]
 simp only[show (2^64:Int)=18446744073709551616 from by decide,show (2^(64-1):Int)=9223372036854775808 from by decide]
 split
 ·rename_i h;simp at h;omega
 ·rename_i h;simp at h;omega
theorem yR {n:Int}(h1:0≤n)(h2:n<18446744073709551616):IntKind.wrap .u64 n=n:=by
 unfold IntKind.wrap
 simp only[IntKind.bits,IntKind.signed]
 simp only[show (2^64:Int)=18446744073709551616 from by decide,qvT,qv0,if_false]
 omega
theorem qt1 {n:Int}(h1:0≤n)(h2:n<256):IntKind.wrap .u8 n=n:=by
 unfold IntKind.wrap
 simp only[IntKind.bits,IntKind.signed]
 simp only[show (2^8:Int)=256 from by decide,qvT,qv0,if_false]
 omega
theorem qgS (n:Int):IntKind.wrap .u64 n=n%18446744073709551616:=by
 unfold IntKind.wrap
 simp only[IntKind.bits,IntKind.signed]
 simp only[show (2^64:Int)=18446744073709551616 from by decide,qvT,qv0,if_false]
theorem qm3 (n:Int):IntKind.wrap .u8 n=n%256:=by
 unfold IntKind.wrap
 simp only[IntKind.bits,IntKind.signed]
 simp only[show (2^8:Int)=256 from by decide,qvT,qv0,if_false]
theorem qD {a b:Int}(h1:-9223372036854775808≤a+b)(h2:a+b<9223372036854775808):iadd .i64 a b=a+b:=kE h1 h2
theorem zB {a b:Int}(h1:-9223372036854775808≤a-b)(h2:a-b<9223372036854775808):isub .i64 a b=a-b:=kE h1 h2
theorem qG {α:Type}(xs:List α)(i:Nat):idx xs (i:Int)=xs[i]?:=by simp[idx]
theorem yb {α:Type}{lim:Nat}{xs ys:List α}(h:xs.length+ys.length≤lim):app lim xs ys=some (xs++ys):=by simp[app,h]
theorem qa8 {x:Int}(h:(Lit.int .i64 x).wf=true):-9223372036854775808≤x∧x<9223372036854775808:=by
 simp[Lit.wf,IntKind.min,IntKind.max,IntKind.signed,IntKind.bits] at h
 exact ⟨by omega,by omega⟩
theorem qsA {x:Int}(h:(Lit.int .u8 x).wf=true):0≤x∧x<256:=by
 simp[Lit.wf,IntKind.min,IntKind.max,IntKind.signed,IntKind.bits] at h
 exact ⟨by omega,by omega⟩
theorem qfr {k:IntKind}{a:Int}{m:Nat}(ha:0≤a)(ha2:a<2^k.bits)(hm:m≤k.bits)(hs:k.signed=false):iand k a (2^m-1:Nat)=a%2^m:=by
 unfold iand
 obtain ⟨n,rfl⟩:=qvS ha
 have hn:n<2^k.bits:=by exact_mod_cast ha2
 have h1:(qwi k.bits (n:Int))=qwd k.bits n:=by simp
 have h2:(qwi k.bits ((2^m-1:Nat):Int))=qwd k.bits (2^m-1):=by simp
 rw[h1,h2,BitVec.toNat_and,qwB,qwB,qwj hn]
 have h3:2^m≤2^k.bits:=Nat.pow_le_pow_right (by decide) hm
 have h0:0<2^m:=Nat.pow_pos (by decide)
 rw[qwj (by omega),Nat.and_two_pow_sub_one_eq_mod]
 have h4:n%2^m<2^k.bits:=Nat.lt_of_lt_of_le (Nat.mod_lt _ h0) h3
 unfold IntKind.wrap
 simp only[hs,qvT,qv0,if_false]
 rw[Int.emod_eq_of_lt (by omega) (by exact_mod_cast h4)]
 simp
theorem qoB {k:IntKind}{a b:Int}{m:Nat}(ha:0≤a)(ham:a<2^m)(hb:0≤b)(hbm:b%2^m=0)(hs:k.signed=false)(hab:a+b<2^k.bits):ior k a b=a+b:=by
 unfold ior
 obtain ⟨x,rfl⟩:=qvS ha
 obtain ⟨y,rfl⟩:=qvS hb
 have hx:x<2^m:=by exact_mod_cast ham
 have hy:y%2^m=0:=by exact_mod_cast hbm
 have hxy:x+y<2^k.bits:=by exact_mod_cast hab
 have h1:(qwi k.bits (x:Int))=qwd k.bits x:=by simp
 have h2:(qwi k.bits (y:Int))=qwd k.bits y:=by simp
 rw[h1,h2,BitVec.toNat_or,qwB,qwB,qwj (by omega),qwj (by omega)]
 have h3:x ||| y=x+y:=by
  have hy2:y=2^m*(y/2^m):=by
   have:=Nat.div_add_mod y (2^m);omega
  have h4:=Nat.two_pow_add_eq_or_of_lt hx (y/2^m)
  rw[← hy2] at h4
  rw[Nat.or_comm,← h4,Nat.add_comm]
 rw[h3]
 unfold IntKind.wrap
 simp only[hs,qvT,qv0,if_false]
 rw[Int.emod_eq_of_lt (by omega) (by exact_mod_cast hxy)]
 simp
theorem qfs {k:IntKind}{a:Int}{m:Nat}(hm:m≤k.bits):ishr k a (m:Int)=a/2^m:=by
 unfold ishr
 have h:min ((m:Int).toNat) k.bits=m:=by simp;omega
 rw[h,Int.fdiv_eq_ediv_of_nonneg _ (by exact_mod_cast qwn _)]
theorem qik {a:Int}{m:Nat}(hm:m≤64):ishl .u64 a (m:Int)=(a*2^m)%18446744073709551616:=by
 unfold ishl
 have h:min ((m:Int).toNat) (IntKind.bits .u64)=m:=by simp[IntKind.bits];omega
 rw[h,qgS]
end SX
namespace SX
open Go
class UnF (P:Program) (t:TypeId) (d:outParam TypeDesc):Prop where
 u:P.underlying t=some d
class EnC (P:Program) (f:FuncId):Prop where
 e:Enters P f
structure Stp (p:List Nat) (A:Prop):Prop where
 go:A
structure Stq (p:List Nat) (A:Prop):Prop where
 go:A
theorem stp0 {A:Prop}(h:A):Stp [] A:=⟨h⟩
theorem sta (c:Nat){p:List Nat}{A:Prop}(h:Stq p A):Stq (c::p) A:=⟨h.go⟩
theorem stc (c:Nat){p:List Nat}{A:Prop}(h:Stq p A):Stp (c::p) A:=⟨h.go⟩
theorem stk {p:List Nat}{A A':Prop}(f:A'→A)(h:Stp p A'):Stq p A:=⟨f h.go⟩
theorem stz {A:Prop}(h:A):Stq [] A:=⟨h⟩
structure Stv (p:List Nat) (B A:Prop):Prop where
 go:B→A
inductive Gets {α:Type} (R:List α):List Nat→List α→Prop
 | nil:Gets R [] []
 | cons {is:List Nat} {R':List α} {r:α} (i:Nat) (h:R[i]?=some r) (hp:Gets R is R'):Gets R (i::is) (r::R')
def dn (i j:Nat):Nat:=if i<j then j-1 else j
theorem qnk {α:Type}{R R':List α}{is:List Nat}(i:Nat)(h:Gets R is R')(hn:i∉is):Gets (R.eraseIdx i) (is.map (dn i)) R':=by
 induction h with
 | nil=>exact .nil
 | @cons is R' r j h _ ih =>
  simp only[qvR,not_or] at hn
  refine .cons _ ?_ (ih hn.2)
  rw[List.getElem?_eraseIdx]
  unfold dn
  by_cases h1:i<j
  ·rw[if_pos h1,if_neg (by omega),show j-1+1=j from by omega];exact h
  ·rw[if_neg h1,if_pos (by omega)];exact h
theorem qlb {α:Type}:∀ (R' R:List α) (is:List Nat),Gets R is R'→is.Nodup→Pick R R'
 | [],_,_,_,_=>.nil
 | _::R',R,_,.cons (is:=is) i h hp,hn=>by
  have hn':=qxv.1 hn
  refine .cons i h (qlb R' _ (is.map (dn i)) (qnk i hp hn'.1) ?_)
  have:∀ (l:List Nat),l.Nodup→i∉l→(l.map (dn i)).Nodup:=by
   intro l
   induction l with
   | nil=>intro _ _;exact List.nodup_nil
   | cons a l ih =>
    intro hl hi
    have hl':=qxv.1 hl
    simp only[qvR,not_or] at hi
    refine qxv.2 ⟨fun hm=>?_,ih hl'.2 hi.2⟩
    obtain ⟨b,hb,e⟩:=qwy.1 hm
    have hib:i≠b:=fun e=>hi.2 (e▸hb)
    have:a=b:=by unfold dn at e;split at e <;> split at e <;> omega
    exact hl'.1 (this▸hb)
  exact this is hn'.2 hn'.1
theorem pk {α:Type}{R R':List α}(is:List Nat)(h:Gets R is R':=by (try dsimp only);repeat (first | exact .nil | refine .cons _ rfl ?_))(hn:is.Nodup:=by decide):Pick R R':=qlb R' R is h hn
section
variable {P:Program} {ro:Option Nat} {n:Nat} {D:List Deferred} {M0:List Nat} {w0:World} {Q:Exit→Act→World→Prop} {ρ:Type} {p:List Nat}
variable {ops:Array Oper} {rest:List Oper} {l:Env} {B:List BlkD} {R:List RowD} {F:List (World→Prop)} {m:Option ρ} {r:ρ} {ps:List Nat} {Bs:List BlkD} {Fs:List (World→Prop)} {x y c:Code}
variable {t:TypeId} {pos:String} {af:Array Edge} {gd:Option (Nat×Bool)} {d:Nat}
variable {I':Env}
theorem lka (h:∀ p∈I',look l p.1=some p.2:=by (try dsimp only);repeat (first | exact qf5 | refine zm rfl ?_)):∀ p∈I',look l p.1=some p.2:=h
theorem pka {α:Type}{R R':List α}(h:Pick R R':=by (try dsimp only);repeat (first | exact .nil | refine .cons 0 rfl ?_ | refine .cons 1 rfl ?_ | refine .cons 2 rfl ?_ | refine .cons 3 rfl ?_ | refine .cons 4 rfl ?_ | refine .cons 5 rfl ?_ | refine .cons 6 rfl ?_ | refine .cons 7 rfl ?_ | refine .cons 8 rfl ?_ | refine .cons 9 rfl ?_ | refine .cons 10 rfl ?_ | refine .cons 11 rfl ?_ | refine .cons 12 rfl ?_ | refine .cons 13 rfl ?_ | refine .cons 14 rfl ?_ | refine .cons 15 rfl ?_ | refine .cons 16 rfl ?_ | refine .cons 17 rfl ?_)):Pick R R':=h
theorem tka {α:Type}{R R' S:List α}(h:Takes R R' S:=by repeat (first | exact .nil | apply Takes.cons 0 rfl | apply Takes.cons 1 rfl | apply Takes.cons 2 rfl | apply Takes.cons 3 rfl | apply Takes.cons 4 rfl | apply Takes.cons 5 rfl | apply Takes.cons 6 rfl | apply Takes.cons 7 rfl | apply Takes.cons 8 rfl | apply Takes.cons 9 rfl | apply Takes.cons 10 rfl | apply Takes.cons 11 rfl | apply Takes.cons 12 rfl | apply Takes.cons 13 rfl | apply Takes.cons 14 rfl | apply Takes.cons 15 rfl | apply Takes.cons 16 rfl | apply Takes.cons 17 rfl)):Takes R R' S:=h
theorem fka {F':List (World→Prop)}(h:∀ φ∈F',φ∈F:=by (try dsimp only);repeat (first | exact zA | refine qj 0 rfl ?_ | refine qj 1 rfl ?_ | refine qj 2 rfl ?_ | refine qj 3 rfl ?_ | refine qj 4 rfl ?_ | refine qj 5 rfl ?_ | refine qj 6 rfl ?_ | refine qj 7 rfl ?_ | refine qj 8 rfl ?_ | refine qj 9 rfl ?_ | refine qj 10 rfl ?_ | refine qj 11 rfl ?_ | refine qj 12 rfl ?_ | refine qj 13 rfl ?_ | refine qj 14 rfl ?_ | refine qj 15 rfl ?_ | refine qj 16 rfl ?_ | refine qj 17 rfl ?_)):∀ φ∈F',φ∈F:=h
theorem araR {φ:World→Prop}{Φ:List (World→Prop)}(j:Nat){rd:RowD}(h:R[j]?=some rd)(e:Cells rd.v rd.n rd.size rd.cs=φ)(ha:Args R F Φ):Args R F (φ::Φ):=e▸.consR j rd h ha
theorem armR {φ:World→Prop}{Φ:List (World→Prop)}(j:Nat){rd:RowD}(h:R[j]?=some rd)(e:Cells rd.v rd.n rd.size rd.cs=φ)(ha:ArgsM R F Φ):ArgsM R F (φ::Φ):=e▸.consR j rd h ha
theorem ara {Φ:List (World→Prop)}(h:Args R F Φ:=by repeat (first | exact .nil | refine .consF 0 rfl ?_ | refine .consF 1 rfl ?_ | refine .consF 2 rfl ?_ | refine .consF 3 rfl ?_ | refine .consF 4 rfl ?_ | refine .consF 5 rfl ?_ | refine .consF 6 rfl ?_ | refine .consF 7 rfl ?_ | refine .consF 8 rfl ?_ | refine .consF 9 rfl ?_ | refine .consF 10 rfl ?_ | refine .consF 11 rfl ?_ | refine .consF 12 rfl ?_ | refine .consF 13 rfl ?_ | refine .consF 14 rfl ?_ | refine .consF 15 rfl ?_ | refine .consF 16 rfl ?_ | refine .consF 17 rfl ?_ | refine araR 0 rfl rfl ?_ | refine araR 1 rfl rfl ?_ | refine araR 2 rfl rfl ?_ | refine araR 3 rfl rfl ?_ | refine araR 4 rfl rfl ?_ | refine araR 5 rfl rfl ?_ | refine araR 6 rfl rfl ?_ | refine araR 7 rfl rfl ?_ | refine araR 8 rfl rfl ?_ | refine araR 9 rfl rfl ?_ | refine araR 10 rfl rfl ?_ | refine araR 11 rfl rfl ?_ | refine araR 12 rfl rfl ?_ | refine araR 13 rfl rfl ?_ | refine araR 14 rfl rfl ?_ | refine araR 15 rfl rfl ?_ | refine araR 16 rfl rfl ?_ | refine araR 17 rfl rfl ?_ | refine .consG 0 rfl (zW fun _=>rfl) ?_ | refine .consG 1 rfl (zW fun _=>rfl) ?_ | refine .consG 2 rfl (zW fun _=>rfl) ?_ | refine .consG 3 rfl (zW fun _=>rfl) ?_ | refine .consG 4 rfl (zW fun _=>rfl) ?_ | refine .consG 5 rfl (zW fun _=>rfl) ?_ | refine .consG 6 rfl (zW fun _=>rfl) ?_ | refine .consG 7 rfl (zW fun _=>rfl) ?_ | refine .consG 8 rfl (zW fun _=>rfl) ?_ | refine .consG 9 rfl (zW fun _=>rfl) ?_)):Args R F Φ:=h
theorem arma {Φ:List (World→Prop)}(h:ArgsM R F Φ:=by repeat (first | exact .nil | refine .consF 0 rfl ?_ | refine .consF 1 rfl ?_ | refine .consF 2 rfl ?_ | refine .consF 3 rfl ?_ | refine .consF 4 rfl ?_ | refine .consF 5 rfl ?_ | refine .consF 6 rfl ?_ | refine .consF 7 rfl ?_ | refine .consF 8 rfl ?_ | refine .consF 9 rfl ?_ | refine .consF 10 rfl ?_ | refine .consF 11 rfl ?_ | refine .consF 12 rfl ?_ | refine .consF 13 rfl ?_ | refine .consF 14 rfl ?_ | refine .consF 15 rfl ?_ | refine .consF 16 rfl ?_ | refine .consF 17 rfl ?_ | refine armR 0 rfl rfl ?_ | refine armR 1 rfl rfl ?_ | refine armR 2 rfl rfl ?_ | refine armR 3 rfl rfl ?_ | refine armR 4 rfl rfl ?_ | refine armR 5 rfl rfl ?_ | refine armR 6 rfl rfl ?_ | refine armR 7 rfl rfl ?_ | refine armR 8 rfl rfl ?_ | refine armR 9 rfl rfl ?_ | refine armR 10 rfl rfl ?_ | refine armR 11 rfl rfl ?_ | refine armR 12 rfl rfl ?_ | refine armR 13 rfl rfl ?_ | refine armR 14 rfl rfl ?_ | refine armR 15 rfl rfl ?_ | refine armR 16 rfl rfl ?_ | refine armR 17 rfl rfl ?_ | refine .consG 0 rfl (zW fun _=>rfl) ?_ | refine .consG 1 rfl (zW fun _=>rfl) ?_ | refine .consG 2 rfl (zW fun _=>rfl) ?_ | refine .consG 3 rfl (zW fun _=>rfl) ?_ | refine .consG 4 rfl (zW fun _=>rfl) ?_ | refine .consG 5 rfl (zW fun _=>rfl) ?_ | refine .consG 6 rfl (zW fun _=>rfl) ?_ | refine .consG 7 rfl (zW fun _=>rfl) ?_ | refine .consG 8 rfl (zW fun _=>rfl) ?_ | refine .consG 9 rfl (zW fun _=>rfl) ?_)):ArgsM R F Φ:=h
theorem qgN {fuel:Nat}{done:Array Bool}{i:Nat}{o:Oper}{V:Value}(ho:ops[i]?=some o)(hd:o.dst=some d)(hw:wants ops l o=some true)(hy:Yv P l [] [] o V)
  (h:Stp p (SXB P ro ps n D M0 w0 (vD Q) ops Bs Fs fuel (done.setIfInBounds i true) ((d,V)::l) B R F m r)) (hk:okP ops ps done i d n=true:=by kernel_rfl):Stq (i::p) (SXB P ro ps n D M0 w0 (vD Q) ops Bs Fs (fuel+1) done l B R F m r):=⟨qm i V ho hd hw hy h.go hk⟩
theorem qgM {fuel:Nat}{done:Array Bool}{i:Nat}{o:Oper}{V:Value}(ho:ops[i]?=some o)(hd:o.dst=some d)(hw:wants ops l o=some true)(hy:Yv P l Bs [] o V)
  (h:Stp p (SXB P ro ps n D M0 w0 (vD Q) ops Bs Fs fuel (done.setIfInBounds i true) ((d,V)::l) B R F m r)) (hk:okP ops ps done i d n=true:=by kernel_rfl):Stq (i::p) (SXB P ro ps n D M0 w0 (vD Q) ops Bs Fs (fuel+1) done l B R F m r):=⟨q8 i V ho hd hw hy h.go hk⟩
theorem qtC {fuel:Nat}{done:Array Bool}{i:Nat}{o:Oper}(ho:ops[i]?=some o)(hd:o.dst=some d)(hw:wants ops l o=some false)
  (h:Stp p (SXB P ro ps n D M0 w0 (vD Q) ops Bs Fs fuel (done.setIfInBounds i true) ((d,undef)::l) B R F m r)) (hk:okP ops ps done i d n=true:=by kernel_rfl):Stq (i::p) (SXB P ro ps n D M0 w0 (vD Q) ops Bs Fs (fuel+1) done l B R F m r):=⟨qr8 i ho hd hw h.go hk⟩
theorem qtD {fuel:Nat}{done done':Array Bool}{i:Nat}{o:Oper}(ho:ops[i]?=some o)(hr:Region.ready .any ops done=[i])(hdone:done.setIfInBounds i true=done')
  (h:Stp p (SXO P ro n D M0 w0 (Exit.then (fun a w=>Sh ps Bs Fs done' w∧anyK ro P ops Q (Sh ps Bs Fs) fuel done' a w) Q) ops [o] l B R F m r)):Stq (i::p) (SXB P ro ps n D M0 w0 Q ops Bs Fs (fuel+1) done l B R F m r):=⟨qmN i ho hr hdone h.go⟩
theorem qh {S:Type}(K:S→Env×List BlkD×List RowD×List (World→Prop)×Option ρ)
  (hx:SXC P ro n D M0 w0 (Exit.then (fun a w=>∃ s,(K s).2.2.2.2=some r∧Fr n D a (K s).1∧Hp M0 w0 w (K s).2.1 (K s).2.2.1 (K s).2.2.2.1) Q) x l B R F m r)
  (hy:∀ s,SXC P ro n D M0 w0 Q y (K s).1 (K s).2.1 (K s).2.2.1 (K s).2.2.2.1 (K s).2.2.2.2 r):SXC P ro n D M0 w0 Q (.seq x y) l B R F m r:=qfo _ _ _ _ _ hx hy
theorem qq {S:Type}(k:Nat)(K:S→Env×List BlkD×List RowD×List (World→Prop)×Option ρ)
  (hx:SXO P ro n D M0 w0 (Exit.then (fun a w=>∃ s,(K s).2.2.2.2=some r∧Fr n D a (K s).1∧Hp M0 w0 w (K s).2.1 (K s).2.2.1 (K s).2.2.2.1) Q) ops (rest.take k) l B R F m r)
  (hy:∀ s,SXO P ro n D M0 w0 Q ops (rest.drop k) (K s).1 (K s).2.1 (K s).2.2.1 (K s).2.2.2.1 (K s).2.2.2.2 r):SXO P ro n D M0 w0 Q ops rest l B R F m r:=qmV k _ _ _ _ _ hx hy
theorem qu {S:Type}(K:S→Env×List BlkD×List RowD×List (World→Prop))(ml:Nat→S→Option ρ)(s0:S)(k0:Nat)
  (hround:∀ k s,SXC P ro n D M0 w0 (Exit.then (fun a w=>∃ k'<k+1,∃ s,ml k' s=some r∧Fr n D a (K s).1∧Hp M0 w0 w (K s).2.1 (K s).2.2.1 (K s).2.2.2) Q) c (K s).1 (K s).2.1 (K s).2.2.1 (K s).2.2.2 (ml (k+1) s) r)
  (hI:∀ p∈(K s0).1,look l p.1=some p.2:=by exact lka)
  (hB:Pick B (K s0).2.1:=by exact pka)
  (hR:Pick R (K s0).2.2.1:=by exact pka)
  (hF:∀ φ∈(K s0).2.2.2,φ∈F:=by exact fka)
  (hz:∀ s,ml 0 s=none:=by exact fun _=>rfl) :
  SXC P ro n D M0 w0 Q (.loop c) l B R F (ml k0 s0) r:=qdG _ _ _ _ ml s0 k0 hround hI hB hR hF hz
theorem qb {S:Type}{I:S→Env}{IB:S→List BlkD}{IR:S→List RowD}{IF:S→List (World→Prop)}{mj:S→Option ρ}{K:Exit→Act→World→Prop}(s:S)
  (hI:∀ p∈I s,look l p.1=some p.2:=by exact lka)
  (hB:Pick B (IB s):=by exact pka)
  (hR:Pick R (IR s):=by exact pka)
  (hF:∀ φ∈IF s,φ∈F:=by exact fka) :
  SXQ n D M0 w0 (Exit.then (fun a w=>∃ s,mj s=some r∧Fr n D a (I s)∧Hp M0 w0 w (IB s) (IR s) (IF s)) K) .normal l B R F (mj s) r:=zj s hI hB hR hF
theorem qr {S:Type}{I:S→Env}{IB:S→List BlkD}{IR:S→List RowD}{IF:S→List (World→Prop)}{ml:Nat→S→Option ρ}{K:Exit→Act→World→Prop}{k:Nat}(s:S)
  (hI:∀ p∈I s,look l p.1=some p.2:=by exact lka)
  (hB:Pick B (IB s):=by exact pka)
  (hR:Pick R (IR s):=by exact pka)
  (hF:∀ φ∈IF s,φ∈F:=by exact fka) :
  SXQ n D M0 w0 (Exit.then (fun a w=>∃ k'<k+1,∃ s,ml k' s=some r∧Fr n D a (I s)∧Hp M0 w0 w (IB s) (IR s) (IF s)) K) .normal l B R F (ml k s) r:=qd4 s hI hB hR hF
theorem qg {α γ:Type}{mg:Option α}{k:α→Option ρ}{f:FuncId}{xs:Array Operand}{tys:Array TypeId}{vs:List Value}{Φ:List (World→Prop)}{V:α→γ→Value}{RW:α→γ→List RowD}{PH:α→γ→List (World→Prop)}
  (hC:∀ {y},mg=some y→Pure P f vs Φ γ (V y) (RW y) (PH y))
  (h:∀ y,mg=some y→∀ g,SXO P ro n D M0 w0 Q ops rest ((d,V y g)::l) B (RW y g++R) (PH y g++F) (k y) r)
  (he:Enters P f:=by exact EnC.e) (hw:wants ops l ⟨some d,.call ⟨.value (.func f),xs,tys⟩,t,pos,af,gd⟩=some true:=by rfl) (hx:evArgs l xs.toList=some vs:=by rfl) (hd:Nat.blt d n=true:=by rfl)
  (ha:Args R F Φ:=by exact ara) :
  SXO P ro n D M0 w0 Q ops (⟨some d,.call ⟨.value (.func f),xs,tys⟩,t,pos,af,gd⟩::rest) l B R F (mg.bind k) r:=zx he hw hx hd (fun _=>hC) ha h
theorem qW {α γ:Type}{mg:Option α}{k:α→Option ρ}{f:FuncId}{xs:Array Operand}{tys:Array TypeId}{vs:List Value}{Φ:List (World→Prop)}{V:α→γ→Value}{B0 BS:List BlkD}{R0 RS:List RowD}{B1:α→γ→List BlkD}{R1:α→γ→List RowD}
  (hC:∀ {y},mg=some y→PureM P f vs B0 R0 Φ γ (V y) (B1 y) (R1 y))
  (h:∀ y,mg=some y→∀ g,SXO P ro n D M0 w0 Q ops rest ((d,V y g)::l) (B1 y g++BS) (R1 y g++RS) F (k y) r)
  (he:Enters P f:=by exact EnC.e) (hw:wants ops l ⟨some d,.call ⟨.value (.func f),xs,tys⟩,t,pos,af,gd⟩=some true:=by rfl) (hx:evArgs l xs.toList=some vs:=by rfl) (hd:Nat.blt d n=true:=by rfl)
  (hB:Takes B B0 BS:=by exact tka)
  (hR:Takes R R0 RS:=by exact tka)
  (ha:ArgsM RS F Φ:=by exact arma) :
  SXO P ro n D M0 w0 Q ops (⟨some d,.call ⟨.value (.func f),xs,tys⟩,t,pos,af,gd⟩::rest) l B R F (mg.bind k) r:=qke he hw hx hd (fun _=>hC) hB hR ha h
theorem qsa (h:SXC P ro n D M0 w0 Q c [] B R F m r):SXC P ro n D M0 w0 Q c (([]:List Value).zipIdx.map fun p=>(p.2,p.1)) B R F m r:=h
theorem qsb {a0:Value}(h:SXC P ro n D M0 w0 Q c [(0,a0)] B R F m r):SXC P ro n D M0 w0 Q c ([a0].zipIdx.map fun p=>(p.2,p.1)) B R F m r:=h
theorem qsc {a0 a1:Value}(h:SXC P ro n D M0 w0 Q c [(0,a0),(1,a1)] B R F m r):SXC P ro n D M0 w0 Q c ([a0,a1].zipIdx.map fun p=>(p.2,p.1)) B R F m r:=h
theorem qsd {a0 a1 a2:Value}(h:SXC P ro n D M0 w0 Q c [(0,a0),(1,a1),(2,a2)] B R F m r):SXC P ro n D M0 w0 Q c ([a0,a1,a2].zipIdx.map fun p=>(p.2,p.1)) B R F m r:=h
theorem qse {a0 a1 a2 a3:Value}(h:SXC P ro n D M0 w0 Q c [(0,a0),(1,a1),(2,a2),(3,a3)] B R F m r):SXC P ro n D M0 w0 Q c ([a0,a1,a2,a3].zipIdx.map fun p=>(p.2,p.1)) B R F m r:=h
theorem qsf {a0 a1 a2 a3 a4:Value}(h:SXC P ro n D M0 w0 Q c [(0,a0),(1,a1),(2,a2),(3,a3),(4,a4)] B R F m r):SXC P ro n D M0 w0 Q c ([a0,a1,a2,a3,a4].zipIdx.map fun p=>(p.2,p.1)) B R F m r:=h
theorem qs {fn:Func}{γ:Type}{V:γ→Value}{RW:γ→List RowD}{w:World}{x:ρ}{e:Exit}(g:γ){v:Value}
  (hres:∀ a w',Fr n [] a l→Hp [] w w' B R F→(results fn a.tmps).run P w'=.ok v w':=by first | exact res1 rfl rfl | exact res2 rfl rfl rfl | exact res3 rfl rfl rfl rfl | exact res0 rfl)
  (hR:x=r→Pick R (RW g):=by intro h;subst h;exact pka)
  (hv:x=r→v=V g:=by intro h;subst h;rfl) (he:e=.ret∨e=.normal:=by first | exact .inl rfl | exact .inr rfl) :
  SXQ n [] [] w (bodyPost P fn fun e w'=>∃ g:γ,e=.returned (V g)∧Ret w w' (RW g) []) e l B R F (some x) r:=qF g hres hR hv he
theorem zy {fn:Func}{γ:Type}{V:γ→Value}{B1:γ→List BlkD}{R1:γ→List RowD}{w:World}{x:ρ}{e:Exit}(g:γ){v:Value}
  (hres:∀ a w',Fr n [] a l→Hp M0 w w' B R F→(results fn a.tmps).run P w'=.ok v w':=by first | exact res1 rfl rfl | exact res2 rfl rfl rfl | exact res3 rfl rfl rfl rfl | exact res0 rfl)
  (hB:x=r→Pick B (B1 g):=by intro h;subst h;exact pka)
  (hR:x=r→Pick R (R1 g):=by intro h;subst h;exact pka)
  (hv:x=r→v=V g:=by intro h;subst h;rfl) (he:e=.ret∨e=.normal:=by first | exact .inl rfl | exact .inr rfl) :
  SXQ n [] M0 w (bodyPost P fn fun e w'=>∃ g:γ,e=.returned (V g)∧Hp M0 w w' (B1 g) (R1 g) []) e l B R F (some x) r:=yI g hres hB hR hv he
theorem qqh {I:Env}{K:Exit→Act→World→Prop}(hI:∀ p∈I,look l p.1=some p.2:=by exact lka) :
  SXQ n D M0 w0 (Exit.then (fun a w=>∃ _s:Unit,m=some r∧Fr n D a I∧Hp M0 w0 w B R F) K) .normal l B R F m r:=qsy hI
theorem qqU {α:Type}{R:List α}{is ks:List Nat}{A C:List α}(h:Gets R is A)(h2:Gets R ks C):Gets R (is++ks) (A++C):=by
 induction h with
 | nil=>exact h2
 | cons i h _ ih=>exact .cons i h ih
theorem qqV {α:Type}{R A:List α}{is:List Nat}(h:Gets R is A):A.length=is.length:=by
 induction h with
 | nil=>rfl
 | cons i h _ ih=>simp[ih]
theorem qpL {α:Type}{R S:List α}{is:List Nat}(h:Gets R is S)(hn:is.Nodup)(hl:is.length=R.length):R.Perm S:=by
 obtain ⟨T,hT⟩:=(qlb S R is h hn).perm
 have h1:=hT.length_eq
 rw[qvN,qqV h] at h1
 have:T=[]:=List.eq_nil_of_length_eq_zero (by omega)
 rw[this,List.append_nil] at hT
 exact hT
theorem qkg {α γ:Type}{enc:α×γ→List Value}{rin:α×γ→List RowF}{e size i:Nat}{v:Value}{S:List RowD}{is ks:List Nat}(xs:List α)(gs:List γ)(hR:R[i]?=some (Ro enc e size v (xs.zip gs)))(hl:gs.length=xs.length)
  (hi:Gets (R.eraseIdx i) is (((xs.zip gs).flatMap rin).map RowF.row)) (hs:Gets (R.eraseIdx i) ks S) (h:SXO P ro n D M0 w0 Q ops rest l B (RoN enc rin e size v xs gs []::S) F m r)
  (hn:(is++ks).Nodup:=by decide) (hlen:(is++ks).length=(R.eraseIdx i).length:=by rfl):SXO P ro n D M0 w0 Q ops rest l B R F m r:=by
 have hp:=qpL (qqU hi hs) hn hlen
 have hT:∀ (A C:List RowD),Takes (A++C) A C:=by
  intro A
  induction A with
  | nil=>intro C;exact .nil
  | cons a A ih=>intro C;exact .cons 0 rfl (ih C)
 refine fun hm a w hf hp0=>h hm a w hf ?_
 have h1:=hp0.perm (List.Perm.refl _) ((qbQ hR).trans (hp.cons _))
 exact h1.nestOf (i:=0) rfl hl (hT _ _)
end
end SX
