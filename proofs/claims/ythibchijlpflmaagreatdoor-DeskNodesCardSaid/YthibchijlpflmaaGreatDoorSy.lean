/- A layer of rules for walking Go code: what a frame's slots hold, what blocks and rows of the heap hold; each rule speaks of a plain model's value: part 3. -/
import Derived.Test.YthibchijlpflmaaGreatDoorSx
import Derived.Lib.AppendStr
import Derived.Lib.Split
import Derived.Lib.SlTrimSet
import Derived.Lib.Atoi
import Derived.Lib.ItoaNum
import Derived.Lib.Join
import Derived.Lib.AtoiAll
import Derived.Laws.CopyRow
import Derived.Laws.IdiomCopy
import Derived.Shelf.SlSortCmp.NoneTotal
import Derived.Lib.SmallJoins
import Derived.Deep.Slices
open BitVec renaming ofNat→qBI, ofInt→qBS, toNat_ofNat→qCI
open Bool renaming false_eq_true→qBy, or_eq_true→qCK, not_eq_true'→qCL, false_and→qCO, eq_false_iff→qDh
open Int renaming eq_ofNat_of_zero_le→qBm, toNat_natCast→qBo
open List renaming getElem?_eq_getElem→qBk, mem_of_getElem?→qBl, mem_append→qBn, mem_cons→qBp, length_append→qBr, append_assoc→qBt, drop_eq_nil_of_le→qBu, range→qBx, getElem?_eq_some_iff→qBC, mem_singleton→qBD, nil_append→qBF, flatMap_cons→qBG, length_map→qBJ, mem_map→qBK, eq_nil_of_length_eq_zero→qBO, length_cons→qBQ, ext_getElem?→qBU, append_nil→qBV, all_eq_true→qBX, length_take→qB7, length_drop→qCc, size_toArray→qCg, nodup_cons→qCi, take_append_drop→qCk, getElem?_map→qCp, take_of_length_le→qCr, getElem?_append_right→qCs, take_left→qCt, map_map→qCG, flatMap_append→qCQ, mem_of_mem_take→qC2, append_toArray→qC5, length_pos_iff→qDs, flatMap_nil→qDK
open List.Sublist renaming refl→qBL
open List.cons renaming injEq→qDO
open Nat renaming le_refl→qBw, zero_le→qBH, mul_le_mul_right→qBN, le_of_ble_eq_true→qBZ, add_mul→qB4, mod_eq_of_lt→qB8, zero_add→qB9, mul_one→qCd, mod_lt→qC1, div_add_mod→qDa
open Option renaming map_some→qCj
open Option.some renaming injEq→qBs
namespace SX
open Go
set_option linter.unusedSectionVars false
variable [DM]
theorem qmu:∀ (xs:List Int) (b:ByteArray),(xs.foldl (fun r n=>r.push (UInt8.ofNat n.toNat)) b).data.toList=b.data.toList++xs.map fun n=>UInt8.ofNat n.toNat
 | [],b=>by simp
 | x::xs,b=>by
  rw[List.foldl_cons,qmu xs]
  simp[ByteArray.push]
theorem qaa (xs:List Int):(bstr xs).data.toList=xs.map fun n=>UInt8.ofNat n.toNat:=by
 unfold bstr
 rw[qmu]
 show []++_=_
 rw[qBF]
theorem qux {a b:ByteArray}(h:a.data.toList=b.data.toList):a=b:=by
 obtain ⟨⟨x⟩⟩:=a
 obtain ⟨⟨y⟩⟩:=b
 simp at h
 rw[h]
theorem vx (xs:List Int):(bstr xs).size=xs.length:=by
 rw[← qkt,qaa,qBJ]
theorem qo2 (xs ys:List Int):bstr xs++bstr ys=bstr (xs++ys):=by
 apply qux
 rw[qaa,List.map_append,← qaa,← qaa]
 simp
def b8 (n:Int):Int:=((UInt8.ofNat n.toNat).toNat:Int)
theorem quw {n:Int}(h0:0≤n)(h1:n<256):b8 n=n:=by
 unfold b8
 rw[UInt8.toNat_ofNat']
 omega
def lB (b:ByteArray):List Int:=b.data.toList.map fun u=>(u.toNat:Int)
theorem qku (b:ByteArray):bstr (lB b)=b:=by
 apply qux
 rw[qaa]
 unfold lB
 rw[qCG]
 conv=>rhs;rw[← List.map_id b.data.toList]
 exact List.map_congr_left fun u _=>by simp
def eT (s:List Int):List Value:=[.string (bstr s)]
theorem qD:EncOk eT 1:=⟨fun _=>rfl,fun _=>rfl⟩
variable {P:Program}{ro:Option Nat}{n:Nat}{D:List Deferred}{M0:List Nat}{w0:World}{Q:Exit→Act→World→Prop}{ρ:Type}
variable {ops:Array Oper}{rest:List Oper}{l:Env}{B:List BlkD}{R:List RowD}{F:List (World→Prop)}{m:Option ρ}{r:ρ}
variable {d:Nat}{t t':TypeId}{pos:String}{af:Array Edge}{gd:Option (Nat×Bool)}
variable {i:Int}{K j:Nat}{ix x:Operand}{a ao:Option Addr}{w:World}
theorem qwF {y:Operand}{xt yt:TypeId}{a b:List Int}{k:List Int→Option ρ}(hw:wants ops l ⟨some d,.binOp .add xt x y yt,t,pos,af,gd⟩=some true)(_hu:P.underlying xt=some .string)(hx:ev l x=some (.string (bstr a)))(hy:ev l y=some (.string (bstr b)))(hd:Nat.blt d n=true)(h:∀ zs,app 9223372036854775807 a b=some zs→SXO P ro n D M0 w0 Q ops rest ((d,.string (bstr zs))::l) B R F (k zs) r) :
  SXO P ro n D M0 w0 Q ops (⟨some d,.binOp .add xt x y yt,t,pos,af,gd⟩::rest) l B R F ((app 9223372036854775807 a b).bind k) r:=by
 refine kS hw fun hm ac w hf hp=>?_
 cases hq:app 9223372036854775807 a b with
 | none=>rw[hq] at hm;simp at hm
 | some zs =>
  rw[hq] at hm
  have hm':k zs=some r:=by simpa using hm
  have hq0:=hq
  unfold app at hq
  split at hq
  ·rename_i hb
   simp only[qBs] at hq
   subst hq
   refine ⟨.string (bstr (a++b)),w,?_,h _ hq0 hm' _ _ (hf.put hd _) hp⟩
   have h1:=hf.ev hx
   have h2:=hf.ev hy
   have hb1:¬ (((bstr a).size+(bstr b).size:Nat):Int) > IntKind.i64.max:=by
    rw[vx,vx,show IntKind.i64.max=9223372036854775807 from by decide];omega
   generalize ac.eval=ε at h1 h2 ⊢
   rw[← qo2]
   simp only[execOp,h1,h2,eqGuard,binOp,Op.stringOp,go_sem]
   rw[if_neg hb1]
   rfl
  ·simp at hq
theorem qp4 {s:TypeId}{a:List Int}(hw:wants ops l ⟨some d,.call ⟨.builtin .len,#[x],#[s]⟩,t,pos,af,gd⟩=some true)(ht:P.underlying s=some .string)(hx:ev l x=some (.string (bstr a)))(hd:Nat.blt d n=true)(h:SXO P ro n D M0 w0 Q ops rest ((d,.int .i64 (a.length:Int))::l) B R F m r):SXO P ro n D M0 w0 Q ops (⟨some d,.call ⟨.builtin .len,#[x],#[s]⟩,t,pos,af,gd⟩::rest) l B R F m r :=
 qK (.int .i64 (a.length:Int)) hw rfl hd (fun ac w hf _=>by
  have h1:=hf.ev hx
  generalize ac.eval=e at h1 ⊢
  simp[h1,Builtin.len_,run_underlying ht,goInt,go_sem,vx]) h
theorem qpO (w:World){tu ty e:TypeId}{agg:Bool}{z:Value}{size bytes:Nat}(ht:P.underlying t=some (.slice e))(htu:P.underlying tu=some .string)(hT:TyF P e agg z size bytes)(hzs:z.cells.size=size){v:Value}{xs:List Value}(hown:w.ownsRow 0 e size v n xs){u:Value}{m:Nat}{news:List Value}(hnl:news.length=m*size)(hlo:Builtin.lenOf u=pure m)(hfc0:∀ w':World,(Builtin.firstCells size m u).run P w'=.ok news.toArray w')(h1:qdX news=true)(h63:n+m≤maxLen)(hbytes:(n+m)*bytes≤140737488355328) :
  ∃ v' w',(Builtin.append_ #[t,tu] ty #[v,u]).run P w=.ok v' w'∧w'.ownsRow 0 e size v' (n+m) (xs++news) ∧
   ((v'.ownBlock=v.ownBlock∧Keeps v.ownBlock.toList w w')∨(Keeps [] w w'∧∀ g,v'.ownBlock=some g→w.heap.size≤g)):=by
 obtain ⟨i,hi,hz,hsz,hby⟩:=hT.inf
 subst hsz;subst hby
 have h1':∀ v∈news,v.oneCell'=true:=qBX.1 h1
 have hsmall:n+m≤9223372036854775807:=by simp only[maxLen] at h63;omega
 have hlen:(xs++news).length=(n+m)*i.size:=by rw[qBr,hown.1,hnl,qB4]
 have hfc:∀ w',w'.heap=w.heap→(Builtin.firstCells i.size m u).run P w'=.ok news.toArray w':=fun w' _=>hfc0 w'
 have hfo:∀ w',w'.heap=w.heap→(Builtin.firstCells i.size n v).run P w'=.ok xs.toArray w':=fun w' hh=>jJ ((zd hown).heap hh)
 have grown:∀ (old:Nat),old<n+m →
   (w.drew.alloc (.cells (xs.toArray++news.toArray++Builtin.zeroCells z.cells (grownCap w (n+m) old e-(n+m))) e)).ownsRow 0 e i.size
    (.slice (some ⟨w.heap.size,0,none⟩) (n+m) (grownCap w (n+m) old e)) (n+m) (xs++news) ∧
   Keeps [] w (w.drew.alloc (.cells (xs.toArray++news.toArray++Builtin.zeroCells z.cells (grownCap w (n+m) old e-(n+m))) e)):=by
  intro old ho
  have hge:=grownCap_ge w (n+m) old e
  have hcm:grownCap w (n+m) old e≤maxLen:=grownCap_le_maxLen w (n+m) old e h63
  refine ⟨⟨hlen,.inr ⟨w.heap.size,_,_,rfl,qBH _,heap_alloc_new w.drew _,hge,hcm,?_,?_⟩⟩,⟨rfl,rfl,rfl,by simp,fun k hk _=>Go.RowKit.Below.heap_alloc w.drew _ k hk,fun _=>Nat.le_succ _⟩⟩
  ·simp only[Array.size_append,qCg,size_zeroCells,hzs,hown.1,hnl,← qB4]
   congr 1
   omega
  ·simp only[Array.toList_append,qBt]
   rw[← qBt,← hlen]
   exact qCt
 rcases hown.2 with ⟨rfl,rfl⟩ | ⟨g,cap,cur,rfl,hbg,hg,hnc,hcm,hcs,htake⟩
 ·have hx:xs=[]:=qBO (by simpa using hown.1)
  subst hx
  by_cases hm:m=0
  ·subst hm
   have hn:news=[]:=qBO (by simpa using hnl)
   subst hn
   refine ⟨.slice none 0 0,w,?_,World.ownsRow_nil w 0 e i.size,.inr ⟨Keeps.refl _ _,by simp[Value.ownBlock]⟩⟩
   have:=hfc w rfl
   simp[Builtin.append_,run_underlying ht,run_underlying htu,Go.sizeOf,typeInfo,hi,hlo,this]
  ·have hgr:=grown 0 (by omega)
   have h48:=qaG (need:=0+m) (cap:=0) (by omega) hbytes
   simp only[qB9,qBF,Array.empty_append] at hgr h48 hbytes ⊢
   refine ⟨_,_,?_,hgr.1,.inr ⟨hgr.2,by simp[Value.ownBlock]⟩⟩
   have hf:=hfc w.drew rfl
   have hf0:(Builtin.firstCells i.size 0 (.slice none 0 0)).run P w.drew=.ok #[] w.drew:=hfo w.drew rfl
   have hm':¬ m≤0:=by omega
   have hmx:¬ (9223372036854775807:Int)<(m:Int):=by omega
   have h48':¬ Builtin.nextslicecap m 0*i.bytes > 2^48:=by simpa using h48
   simp[Builtin.append_,run_underlying ht,run_underlying htu,Go.sizeOf,typeInfo,zeroValue,hi,hz,hlo,hm,hmx,h48',Question.forced,hf,hf0,newRow,grownCap]
 ·by_cases hroom:n+m≤cap
  ·have hfit:n*i.size+news.length≤cur.size:=by rw[hnl,hcs,← qB4];exact qBN _ hroom
   have hst:=run_storeCells_at P g (n*i.size) e news 0 cur w hg (by simpa using hfit) h1'
   simp only[Nat.add_zero] at hst
   have hf:=hfc w rfl
   refine ⟨.slice (some ⟨g,0,none⟩) (n+m) cap,w.setRow g (cur.toList.take (n*i.size)++news++cur.toList.drop (n*i.size+news.length)).toArray,?_,⟨hlen,.inr ⟨g,cap,_,rfl,hbg,setRow_heap w g cur _ e _ hg,hroom,hcm,?_,?_⟩⟩,.inl ⟨rfl,⟨rfl,rfl,rfl,by simp,fun k _ hk=>setRow_other w g k _ (fun e=>hk (by simp[Value.ownBlock,e])),fun _=>qBw _⟩⟩⟩
   ·simp[Builtin.append_,run_underlying ht,run_underlying htu,Go.sizeOf,typeInfo,hi,hlo,hroom,hf,Addr.add_lit,hst]
   ·simp only[qCg,qBr,qB7,qCc,Array.length_toList]
    omega
   ·rw[htake,← hlen]
    exact qCt
  ·have hgr:=grown cap (by omega)
   refine ⟨_,_,?_,hgr.1,.inr ⟨hgr.2,by simp[Value.ownBlock]⟩⟩
   have hf:=hfc w.drew rfl
   have hf0:=hfo w.drew rfl
   have hmx:¬ (9223372036854775807:Int)<(n:Int)+(m:Int):=by omega
   have h48':¬ Builtin.nextslicecap (n+m) cap*i.bytes > 2^48:=by simpa using qaG (by omega) hbytes
   simp[Builtin.append_,run_underlying ht,run_underlying htu,Go.sizeOf,typeInfo,zeroValue,hi,hz,hlo,hroom,hmx,h48',Question.forced,hf,hf0,newRow,grownCap]
   simp only[← Array.append_assoc,qC5]
theorem qrk {xs ys:List Int}{k:List Int→Option ρ}{s:Operand}{v:Value}{tu e:TypeId}{lim:Nat}(i:Nat)(hw:wants ops l ⟨some d,.call ⟨.builtin .append,#[s,x],#[t',tu]⟩,t,pos,af,gd⟩=some true)(ht:P.underlying t'=some (.slice e))(htu:P.underlying tu=some .string)(hT:TyF P e false (.int .u8 0) 1 1)(hd:Nat.blt d n=true)(hs:ev l s=some v)(hx:ev l x=some (.string (bstr ys)))(hR:R[i]?=some (Ro (eI .u8) e 1 v xs))(hlim:Nat.ble lim 140737488355328=true)(h:∀ zs,app lim xs (ys.map b8)=some zs→∀ a c,SXO P ro n D M0 w0 Q ops rest ((d,.slice a zs.length c)::l) B (Ro (eI .u8) e 1 (.slice a zs.length c) zs::R.eraseIdx i) F (k zs) r) :
  SXO P ro n D M0 w0 Q ops (⟨some d,.call ⟨.builtin .append,#[s,x],#[t',tu]⟩,t,pos,af,gd⟩::rest) l B R F ((app lim xs (ys.map b8)).bind k) r:=by
 refine kS hw fun hm a w hf hp=>?_
 cases hq:app lim xs (ys.map b8) with
 | none=>rw[hq] at hm;simp at hm
 | some zs =>
  rw[hq] at hm
  have hm':k zs=some r:=by simpa using hm
  have hq':=hq
  unfold app at hq
  split at hq
  ·rename_i hle
   simp only[qBs] at hq
   subst hq
   have hle':=qBZ hlim
   rw[qBJ] at hle
   have h1:=hf.ev hs
   have h2:=hf.ev hx
   have hcells:Lib.strCells (bstr ys)=(ys.map b8).flatMap (eI .u8):=by
    rw[qkv]
    unfold Lib.strCells
    rw[qaa,qCG,qCG]
    rfl
   obtain ⟨v',w',hr,ho,hk⟩:=qpO (P:=P) (tu:=tu) (ty:=t) w ht htu hT rfl (hp.row _ (qBl hR)) (u:=.string (bstr ys)) (m:=ys.length) (news:=Lib.strCells (bstr ys)) (by rw[Lib.strCells_length,vx,qCd])
    (by show pure (bstr ys).size=_;rw[vx]) (fun w'=>by have:=Lib.run_firstCells_string (P:=P) w' 1 (bstr ys);rw[vx] at this;exact this) (by rw[hcells];exact qA .u8 |>.okAll _)
    (by show xs.length+ys.length≤maxLen;simp only[maxLen];omega) (by show (xs.length+ys.length)*1≤_;omega)
   have hform:=hp.swapRow (r':=Ro (eI .u8) e 1 v' (xs++ys.map b8)) hR ?_ hk
   ·refine ⟨v',w',?_,?_⟩
    ·generalize a.eval=ε at h1 h2 ⊢
     simp only[Ro] at hr
     simp[execOp,resolve,invoke,builtin,h1,h2,hr]
    ·have hs2:SXO P ro n D M0 w0 Q ops rest ((d,v')::l) B (Ro (eI .u8) e 1 v' (xs++ys.map b8)::R.eraseIdx i) F (k (xs++ys.map b8)) r :=
      qjm rfl fun a c hv=>by subst hv;exact h _ hq' a c
     exact hs2 hm' _ _ (hf.put hd _) hform
   ·have ho':w'.ownsRow 0 e 1 v' (xs.length+ys.length) (xs.flatMap (eI .u8)++Lib.strCells (bstr ys)):=ho
    show w'.ownsRow 0 e 1 v' (xs++ys.map b8).length ((xs++ys.map b8).flatMap (eI .u8))
    rw[qBr,qCQ,qBJ,← hcells]
    exact ho'
  ·simp at hq
def bself (g:Nat)(u:Bool):Value:=.pointer (if u then some ⟨g,0,none⟩ else none)
theorem qlE {g:Nat}{old:Array Value}{fr:Nat×Nat}{v:Value}(h:w.heap[g]?=some (.cells old t fr)):w.setCell ⟨g,0,none⟩ v=w.setRow g (old.setIfInBounds 0 v):=by
 unfold World.setCell World.setRow
 congr 1
 apply Array.ext
 ·simp
 ·intro i h1 h2
  have hlt:g<w.heap.size:=(Array.getElem?_eq_some_iff.1 h).1
  have hv:w.heap[g]=.cells old t fr:=(Array.getElem?_eq_some_iff.1 h).2
  by_cases hi:g=i
  ·subst hi
   simp[Array.getElem_modify,hv]
  ·simp[Array.getElem_modify,hi]
theorem qqF {f:FuncId}{T:TypeId}(hu:∀ (b:Nat) (w:World),w.cell? ⟨b,0,none⟩=some (.pointer (some ⟨b,0,none⟩))→Calls P f #[.pointer (some ⟨b,0,none⟩)] w fun e w'=>e=.returned (.tuple #[])∧w'=w)(hf:∀ (b:Nat) (w:World),w.cell? ⟨b,0,none⟩=some (.pointer none)→w.shape? b=some (T,2)→w.frozen? ⟨b,0,none⟩=false→Calls P f #[.pointer (some ⟨b,0,none⟩)] w fun e w'=>e=.returned (.tuple #[])∧w'=w.setCell ⟨b,0,none⟩ (.pointer (some ⟨b,0,none⟩)))(g:Nat)(u:Bool)(v:Value):PureM P f [.pointer (some ⟨g,0,none⟩)] [⟨g,T,[bself g u,v]⟩] [] [] Unit (fun _=>.tuple #[]) (fun _=>[⟨g,T,[bself g true,v]⟩]) (fun _=>[]):=by
 intro w hp
 have hb:w.heap[g]?=some (.cells #[bself g u,v] T (0,0)):=hp.blk ⟨g,T,[bself g u,v]⟩ (List.mem_cons_self ..)
 cases u with
 | true =>
  refine (hu g w (by unfold World.cell?;rw[hb];rfl)).mono fun e w' ⟨h1,h2⟩=>⟨(),h1,?_⟩
  subst h2
  exact hp
 | false =>
  refine (hf g w (by unfold World.cell?;rw[hb];rfl) (by unfold World.shape?;rw[hb];rfl) (by unfold World.frozen?;rw[hb];rfl)).mono fun e w' ⟨h1,h2⟩=>⟨(),h1,?_⟩
  subst h2
  rw[qlE hb]
  exact hp.setBlk (i:=0) (cs':=[bself g true,v]) rfl
variable {kt e:TypeId}{agg:Bool}{size bytes:Nat}{k0 k1:IntKind}
def splitM (s sep:List Int):Option (List (List Int)) :=
 match sep with
 | [c]=>if s.length<4294967281 then some ((Lib.splitB (bstr [c]) 0 (Lib.countB (bstr s) (bstr [c])) (bstr s)).map lB) else none
 | _=>none
def itoaS (x:Int):Option (List Int):=if 0≤x∧x<100 then some (lB ⟨(Lib.decDigits x.toNat).toArray⟩) else none
def itoaB (x:Int):Option (List Int):=if 0≤x∧x<1000 then some (lB ⟨(Lib.itoa x).toArray⟩) else none
def atoiM (s:List Int):Option Int:=if s.length≤18 then Lib.atoi (bstr s).data.toList else none
def trimM (s cut:List Int):Option (List Int):=if cut.all (fun c=>decide (0≤c∧c<128))=true∧2≤cut.length∧cut.length<1000∧s.length≤9223372036854775807 then some (lB ⟨(Lib.trimS (bstr s).data.toList (bstr cut).data.toList).toArray⟩) else none
def bstrM (x:List Int):Option (List Int):=if x.all (fun v=>decide (0≤v∧v<256))=true then some x else none
def itoaC (x:Int):Option (List Int):=if -9223372036854775808≤x∧x≤9223372036854775807 then some (lB ⟨(Lib.itoa x).toArray⟩) else none
def atoiE (s:List Int):Option (Int×Bool) :=
 if s.length≤281474976710656 then
  match Lib.atoiAll (bstr s).data.toList with
  | .ok v=>some (v,true)
  | .range=>some (Lib.atoiSat (bstr s).data.toList,false)
  | _=>some (0,false)
 else none
def joinM (xs:List (List Int))(sep:List Int):Option (List Int) :=
 if xs.length≤140737488355328∧(Lib.join (xs.map fun x=>(bstr x).data.toList) (bstr sep).data.toList).length≤140737488355328 then some (lB ⟨(Lib.join (xs.map fun x=>(bstr x).data.toList) (bstr sep).data.toList).toArray⟩) else none
variable {z:Value}
def entT:Nat→List (List Int×Value)→List MapEntry
 | _,[]=>[]
 | i,p::t=>{ key:=.string (bstr p.1),val:=p.2,born:=i }::entT (i+1) t
def mapT (es:List (List Int×Value)):Obj:=.map (entT 0 es).toArray es.length
theorem qmB (p:List Int×Value):∀ (i:Nat) (es:List (List Int×Value)),entT i (es++[p])=entT i es++[{ key:=.string (bstr p.1),val:=p.2,born:=i+es.length }]
 | i,[]=>rfl
 | i,x::t=>by
  show _::entT (i+1) (t++[p])=_::(entT (i+1) t++_)
  rw[qmB p (i+1) t,qBQ,show i+1+t.length=i+(t.length+1) from by omega]
def lookT (x:List Int):List (List Int×Value)→Option Value
 | []=>none
 | p::t=>if bstr x == bstr p.1 then some p.2 else lookT x t
theorem findT (x:List Int):∀ (es:List (List Int×Value)) (i j:Nat),∃ r,Instr.findNow .string (.string (bstr x)) (entT i es) j=some r∧((r=none∧lookT x es=none)∨∃ q v,r=some (q,v)∧lookT x es=some v)
 | [],i,j=>⟨none,rfl,.inl ⟨rfl,rfl⟩⟩
 | p::t,i,j=>by
  obtain ⟨r,h1,h2⟩:=findT x t (i+1) (j+1)
  cases h:bstr x == bstr p.1
  ·grind [entT,Instr.findNow,Instr.sameNow,lookT]
  ·exact ⟨some (j,p.2),by simp[entT,Instr.findNow,Instr.sameNow,h],.inr ⟨_,_,rfl,by simp[lookT,h]⟩⟩
theorem qmV (hk:P.underlying kt=some .string)(x:List Int)(es:List (List Int×Value)):∃ r,(Instr.findKey kt (.string (bstr x)) (entT 0 es)).run P w=.ok r w∧((r=none∧lookT x es=none)∨∃ q v,r=some (q,v)∧lookT x es=some v):=by
 obtain ⟨r,h1,h2⟩:=findT x es 0 0
 exact ⟨r,by simp[Instr.findKey,run_underlying hk,h1],h2⟩
theorem qlB (hk:P.underlying kt=some .string)(em:Bool)(x:List Int):(Instr.checkKey em 10000 kt (.string (bstr x))).run P w=.ok () w:=by
 have c0:∀ n,(Instr.checkKey em (n+1) kt (.string (bstr x))).run P w=.ok () w:=fun n=>by simp[Instr.checkKey,run_underlying hk]
 simp_all
theorem qoo (hw:wants ops l ⟨some d,.makeMap t' none,t,pos,af,gd⟩=some true)(hd:Nat.blt d n=true)(h:∀ g,SXO P ro n D M0 w0 Q ops rest ((d,.map (some g))::l) (blkO g (mapT [])::B) R F m r):SXO P ro n D M0 w0 Q ops (⟨some d,.makeMap t' none,t,pos,af,gd⟩::rest) l B R F m r :=
 kS hw fun hm a w hf hp=>by
  refine ⟨.map (some w.heap.size),w.alloc (mapT []),?_,h _ hm _ _ (hf.put hd _) (hp.allocO _)⟩
  rfl
theorem yv {y:Operand}{g i:Nat}{u:List Int}{v:Value}{es:List (List Int×Value)}(hw:wants ops l ⟨none,.insert t' x ix y,t,pos,af,gd⟩=some true)(ht:P.underlying t'=some (.map kt e))(hk:P.underlying kt=some .string)(hx:ev l x=some (.map (some g)))(hi:ev l ix=some (.string (bstr u)))(hy:ev l y=some v)(hB:B[i]?=some (blkO g (mapT es)))(hl:lookT u es=none)(h:SXO P ro n D M0 w0 Q ops rest l (B.set i (blkO g (mapT (es++[(u,v)])))) R F m r):SXO P ro n D M0 w0 Q ops (⟨none,.insert t' x ix y,t,pos,af,gd⟩::rest) l B R F m r:=by
 intro hm a w hf hp
 have h1:=hf.ev hx
 have h2:=hf.ev hi
 have h3:=hf.ev hy
 have hb:w.heap[g]?=some (.map (entT 0 es).toArray es.length):=hp.blk _ (qBl hB)
 have hg:=qfE (P:=P) hb
 have hc:=qlB (w:=w) hk false u
 obtain ⟨q,hfk,hr⟩:=qmV (w:=w) hk u es
 have hq':q=none:=by
  simp_all
 subst hq'
 have hset:=qkf (P:=P) (o:=mapT (es++[(u,v)])) hb
 have hobj:Obj.map (entT 0 es++[({ key:=.string (bstr u),val:=v,born:=es.length }:MapEntry)]).toArray (es.length+1)=mapT (es++[(u,v)]):=by
  unfold mapT
  rw[qmB,qBr,qB9]
  simp
 have hrun:(execOp a.eval ⟨none,.insert t' x ix y,t,pos,af,gd⟩).run P w=.ok .skip (w.putObj g (mapT (es++[(u,v)]))):=by
  generalize a.eval=ε at h1 h2 h3 ⊢
  generalize hck:Instr.checkKey false 10000 kt (.string (bstr u))=ck at hc
  simp only[execOp,h1,h2,h3,Instr.mapUpdate,Sem.run_bind,run_underlying ht,Result.andThen_ok,hg,hck,hc,hfk]
  simp_all
 exact qeL (zg hf hw) (yN hw) hrun (h hm _ _ hf (hp.setObj hB _))
def LkW (K:Value→Bool→Option ρ→Prop)(z:Value)(x:List Int):List (List Int×Value)→Option ρ→Prop
 | [],m=>K z false m
 | p::es,m=>∃ m1 m2,m=(if bstr x == bstr p.1 then m1 else m2)∧K p.2 true m1∧LkW K z x es m2
theorem qhy {g i:Nat}{u:List Int}{es:List (List Int×Value)}(hw:wants ops l ⟨some d,.lookup t' x ix true,t,pos,af,gd⟩=some true)(ht:P.underlying t'=some (.map kt e))(hk:P.underlying kt=some .string)(hT:TyF P e agg z size bytes)(hx:ev l x=some (.map (some g)))(hi:ev l ix=some (.string (bstr u)))(hB:B[i]?=some (blkO g (mapT es)))(hd:Nat.blt d n=true)(h:LkW (fun v b m=>SXO P ro n D M0 w0 Q ops rest ((d,.tuple #[v,.bool b])::l) B R F m r) z u es m) :
  SXO P ro n D M0 w0 Q ops (⟨some d,.lookup t' x ix true,t,pos,af,gd⟩::rest) l B R F m r:=by
 have key:∀ a w,Fr n D a l→Hp M0 w0 w B R F→(execOp a.eval ⟨some d,.lookup t' x ix true,t,pos,af,gd⟩).run P w=.ok (.value (.tuple #[(lookT u es).getD z,.bool (lookT u es).isSome])) w:=by
  intro a w hf hp
  have h1:=hf.ev hx
  have h2:=hf.ev hi
  have hb:w.heap[g]?=some (.map (entT 0 es).toArray es.length):=hp.blk _ (qBl hB)
  have hg:=qfE (P:=P) hb
  have hc:=qlB (w:=w) hk (entT 0 es).toArray.isEmpty u
  obtain ⟨q,hq,hr⟩:=qmV (w:=w) hk u es
  have hz:=hT.run_zero w
  generalize a.eval=ε at h1 h2 ⊢
  generalize hck:Instr.checkKey (entT 0 es).toArray.isEmpty 10000 kt (.string (bstr u))=ck at hc
  generalize hzz:zeroValue e=zz at hz
  simp only[execOp,h1,h2,Instr.lookup,Sem.run_bind,run_underlying ht,Result.andThen_ok,hg,Sem.run_pure,hck,hc,hq]
  rcases hr with ⟨rfl,e2⟩ | ⟨q',v',rfl,e2⟩
  ·simp[e2,hzz,hz]
  ·simp[e2]
 refine qK _ hw rfl hd key ?_
 clear key hB
 induction es generalizing m with
 | nil=>exact h
 | cons p es ih =>
  obtain ⟨m1,m2,rfl,h1,h2⟩:=h
  cases hb:bstr u == bstr p.1
  ·have:=ih h2
   simpa[lookT,hb] using this
  ·simpa[lookT,hb] using h1
section
variable {P:Program} {ro:Option Nat} {n:Nat} {D:List Deferred} {M0:List Nat} {w0:World} {Q:Exit→Act→World→Prop} {ρ:Type}
variable {ops:Array Oper} {rest:List Oper} {l:Env} {B:List BlkD} {R:List RowD} {F:List (World→Prop)} {m:Option ρ} {r:ρ} {c z:Code}
theorem qt5 {α:Type}{xs:List α}{y:α}(hy:idx xs i=some y)(h:SXC P ro n D M0 w0 Q c l B R F ((idx xs i).bind fun _=>m) r):SXC P ro n D M0 w0 Q c l B R F m r :=
 fun hm=>h (by simp_all)
theorem qnX {K:Value→Bool→Option ρ→Prop}{z:Value}{x:List Int}(h:K z false m):LkW K z x [] m:=h
theorem qW {K:Value→Bool→Option ρ→Prop}{z v:Value}{x k:List Int}{es:List (List Int×Value)}{m1 m2:Option ρ}(h:K v true m1)(h2:LkW K z x es m2):LkW K z x ((k,v)::es) (if bstr x == bstr k then m1 else m2) :=
 ⟨m1,m2,rfl,h,h2⟩
end
def errV (b:Bool)(g:TypeId×Value):Value:=bif b then .nilIface else .iface g.1 g.2
variable {xt yt:TypeId}
theorem qtT {ms:Array (String×TypeId)}(ht:P.underlying xt=some (.interface ms))(b:Bool)(g:TypeId×Value)(w:World):(Op.equal xt (errV b g) .nilIface).run P w=.ok b w:=by
 have:∀ d,(Op.equalIn (d+1) xt (errV b g) .nilIface).run P w=.ok b w:=fun d=>by cases b <;> simp[Op.equalIn,errV,run_underlying ht]
 exact this 9999
theorem qrt {b:Bool}{g:TypeId×Value}{ms:Array (String×TypeId)}(hw:wants ops l ⟨some d,.binOp .neq xt x (.const .nilIface) yt,t,pos,af,gd⟩=some true)(ht:P.underlying xt=some (.interface ms))(hx:ev l x=some (errV b g))(hd:Nat.blt d n=true)(h:SXO P ro n D M0 w0 Q ops rest ((d,.bool (!b))::l) B R F m r):SXO P ro n D M0 w0 Q ops (⟨some d,.binOp .neq xt x (.const .nilIface) yt,t,pos,af,gd⟩::rest) l B R F m r :=
 qK (.bool (!b)) hw rfl hd (fun a w hf _=>by
  have h1:=hf.ev hx
  have h2:a.eval (.const .nilIface)=.nilIface:=rfl
  have he:=qtT ht b g w
  generalize a.eval=e at h1 h2 ⊢
  cases b <;> simp only[errV,cond_true,cond_false] at h1 he <;> generalize hq:Op.equal xt _ .nilIface=q at he <;> simp[execOp,h1,h2,eqGuard,binOp,hq,he,go_sem]) h
section rules
variable {P:Program} {ro:Option Nat} {n:Nat} {D:List Deferred} {M0:List Nat} {w0:World} {Q:Exit→Act→World→Prop} {ρ:Type}
variable {ops:Array Oper} {rest:List Oper} {l:Env} {B:List BlkD} {R:List RowD} {F:List (World→Prop)} {m:Option ρ} {r:ρ}
variable {d:Nat} {t t' e:TypeId} {pos:String} {af:Array Edge} {gd:Option (Nat×Bool)} {agg:Bool} {z:Value} {size bytes:Nat}
variable {α:Type} {enc:α→List Value} {xs:List α}
theorem qwL {lo:Option Operand}{li:Int}{c:Nat}(hw:wants ops l ⟨some d,.slice t' x lo none none,t,pos,af,gd⟩=some true)(ht:P.underlying t'=some (.slice e))(hT:TyF P e agg z size bytes)(hx:ev l x=some (.slice ao xs.length c))(hlo:evOpt l lo 0=some li)(hR:R[j]?=some (Ro enc e size (.slice ao xs.length c) xs))(hd:Nat.blt d n=true)(h:0≤li∧li<(xs.length:Int)→∀ g,ao=some ⟨g,0,none⟩→SXO P ro n D M0 w0 Q ops rest ((d,.slice (some ⟨g,li.toNat*size,none⟩) (xs.length-li.toNat) (c-li.toNat))::l) B R F m r) :
  SXO P ro n D M0 w0 Q ops (⟨some d,.slice t' x lo none none,t,pos,af,gd⟩::rest) l B R F (chk (decide (0≤li∧li<(xs.length:Int))) m) r:=by
 refine kS hw fun hm a w hf hp=>?_
 by_cases hc:0≤li∧li<(xs.length:Int)
 ·rw[decide_eq_true hc] at hm
  have hm':m=some r:=hm
  have hown:=hp.row _ (qBl hR)
  rcases hown.2 with ⟨h5,h6⟩ | ⟨g,cap,cur,h5,_,hgg,hnc,_⟩
  ·have h6':xs.length=0:=h6
   omega
  ·have h5':Value.slice ao xs.length c=.slice (some ⟨g,0,none⟩) xs.length cap:=h5
   simp only[Value.slice.injEq,true_and] at h5'
   obtain ⟨rfl,rfl⟩:=h5'
   have hnc':xs.length≤c:=hnc
   obtain ⟨L,rfl⟩:=qBm hc.1
   have h1:=hf.ev hx
   have e2:=qdz hf hlo
   have hL:L<xs.length:=by omega
   have hb0:(0:Int)≤(L:Int):=by omega
   have hb1:(L:Int)≤(xs.length:Int):=by omega
   have hb2:(xs.length:Int)≤(c:Int):=by omega
   have hc0:¬ c-L=0:=by omega
   have hc1:¬ c≤L:=by omega
   refine ⟨.slice (some ⟨g,L*size,none⟩) (xs.length-L) (c-L),w,?_,h hc g rfl hm' _ _ (hf.put hd _) hp⟩
   generalize hε:a.eval=ε at h1 e2 ⊢
   rcases e2 with ⟨k2,e2⟩ | ⟨rfl,e2⟩
   ·have hn1:L≤xs.length:=by omega
    simp[execOp,h1,e2,Instr.sliceAt,Instr.slice,Instr.sliceBounds,Instr.sliceBound,asIntOf,run_underlying ht,hT.run_size,hb0,hn1,Addr.add_lit]
    omega
   ·have:L=0:=by omega
    subst this
    have hcz:¬ c=0:=by omega
    simp[execOp,h1,Instr.sliceAt,Instr.slice,Instr.sliceBounds,run_underlying ht,hT.run_size,hcz,Addr.add_lit]
 grind [chk]
theorem qAB {N:Nat}{y:α}(hN:xs.length=N)(h:idx (xs.drop K) i=some y):0≤i∧i<((N-K:Nat):Int):=by
 obtain ⟨h1,h2,_⟩:=qw h
 simp_all
theorem qyT {y:α}(h:idx (xs.drop K) i=some y):xs[K+i.toNat]?=some y:=by
 obtain ⟨_,_,h3⟩:=qw h
 grind
theorem qrq {k:α→Option ρ}{ki:IntKind}{g N cc:Nat}(hN:xs.length=N)(hw:wants ops l ⟨some d,.indexAddr t' x ix,t,pos,af,gd⟩=some true)(ht:P.underlying t'=some (.slice e))(hT:TyF P e agg z size bytes)(hx:ev l x=some (.slice (some ⟨g,K*size,none⟩) (N-K) cc))(hi:ev l ix=some (.int ki i))(hd:Nat.blt d n=true)(h:∀ y,idx (xs.drop K) i=some y→SXO P ro n D M0 w0 Q ops rest ((d,.pointer (some ⟨g,K*size+i.toNat*size,none⟩))::l) B R F (k y) r) :
  SXO P ro n D M0 w0 Q ops (⟨some d,.indexAddr t' x ix,t,pos,af,gd⟩::rest) l B R F ((idx (xs.drop K) i).bind k) r:=by
 refine kS hw fun hm a w hf hp=>?_
 cases hq:idx (xs.drop K) i with
 | none=>simp_all
 | some y =>
  rw[hq] at hm
  have hm':k y=some r:=by grind
  obtain ⟨h0,h1⟩:=qAB hN hq
  have e1:=hf.ev hx
  have e2:=hf.ev hi
  refine ⟨_,w,?_,h y hq hm' _ _ (hf.put hd _) hp⟩
  generalize a.eval=ε at e1 e2 ⊢
  simp[execOp,e1,e2,Instr.indexAt,asIntOf,run_underlying ht,hT.run_size,h0,h1,qb7]
theorem qug {g c:Nat}{V:Value}{y:α}(henc:EncOk enc size)(hw:wants ops l ⟨some d,.load t' x,t,pos,af,gd⟩=some true)(hx:ev l x=some (.pointer (some ⟨g,K*size+i.toNat*size,none⟩)))(hT:TyF P t' agg z size bytes)(hR:R[j]?=some (Ro enc e size (.slice ao xs.length c) xs))(ha:ao=some ⟨g,0,none⟩)(hy:idx (xs.drop K) i=some y)(hs:agg=false→size=1)(hV:(if agg then .agg (enc y).toArray else (enc y).getD 0 undef)=V)(hd:Nat.blt d n=true)(h:SXO P ro n D M0 w0 Q ops rest ((d,V)::l) B R F m r):SXO P ro n D M0 w0 Q ops (⟨some d,.load t' x,t,pos,af,gd⟩::rest) l B R F m r:=by
 rw[← qB4] at hx
 grind [ku,zF,qyT]
theorem qAC (henc:EncOk enc size){c L g:Nat}(ha:ao=some ⟨g,0,none⟩)(hL:L<xs.length):∀ w:World,(Ro enc e size (.slice ao xs.length c) xs).owns w→Sl enc size (.slice (some ⟨g,L*size,none⟩) (xs.drop L).length (c-L)) (xs.drop L) w:=by
 intro w h
 subst ha
 have hown:=h.1
 have hnc:xs.length≤c:=by
  rcases hown.2 with ⟨h5,h6⟩ | ⟨g',cap,cur,h5,_,hgg,hnc,_⟩
  ·have h6':xs.length=0:=h6
   omega
  ·have h5':Value.slice (some ⟨g,0,none⟩) xs.length c=.slice (some ⟨g',0,none⟩) xs.length cap:=h5
   simp only[Value.slice.injEq,true_and] at h5'
   have hnc':xs.length≤cap:=hnc
   omega
 have hc:Cells (.slice (some ⟨g,0,none⟩) xs.length c) xs.length size (xs.flatMap enc) w:=zd hown
 obtain ⟨a',cap,e1,e2⟩:=hc.cut (lo:=L) (hi:=xs.length) (by omega) (qBw _)
 simp only[Value.slice.injEq,true_and] at e1
 obtain ⟨rfl,rfl⟩:=e1
 rw[if_neg (by omega)] at e2
 unfold Sl
 have hf:(xs.drop L).flatMap enc=((xs.flatMap enc).take (xs.length*size)).drop (L*size):=by
  rw[qCr (Nat.le_of_eq (qQ henc xs))]
  have h1:xs.flatMap enc=(xs.take L).flatMap enc++(xs.drop L).flatMap enc:=by grind [qCk]
  grind [qQ]
 grind [Addr.add_lit]
end rules
def yz {α:Type}(k:Nat)(xs ys:List α):List α:=xs.take k++ys.take (xs.length-k)++xs.drop (k+ys.length)
theorem qec {α:Type}{k:Nat}{xs ys:List α}(h:k≤xs.length):(yz k xs ys).length=xs.length:=by
 grind [yz]
section rules
variable {P:Program} {ro:Option Nat} {n:Nat} {D:List Deferred} {M0:List Nat} {w0:World} {Q:Exit→Act→World→Prop} {ρ:Type}
variable {ops:Array Oper} {rest:List Oper} {l:Env} {B:List BlkD} {R:List RowD} {F:List (World→Prop)} {m:Option ρ} {r:ρ}
variable {d:Nat} {t t' e:TypeId} {pos:String} {af:Array Edge} {gd:Option (Nat×Bool)} {agg:Bool} {z:Value} {bytes:Nat}
variable {α:Type} {enc:α→List Value} {xs us:List α}
theorem qgj (henc:EncOk enc 1)(ys:List α):(ys.flatMap enc).length=ys.length:=by
 grind [qQ]
theorem qpb {c dc sc:Nat}{da sa:Option Addr}{ty:TypeId}(henc:EncOk enc 1)(hK:K≤xs.length)(ht:P.underlying t'=some (.slice e))(hT:TyF P e agg z 1 bytes)(hp:Hp M0 w0 w B R F)(hR:R[j]?=some (Ro enc e 1 (.slice ao xs.length c) xs))(hda:∀ g,ao=some ⟨g,0,none⟩→K<xs.length→da=some ⟨g,K,none⟩)(hsrc:Cells (.slice sa us.length sc) us.length 1 (us.flatMap enc) w) :
  ∃ w',(Builtin.copy_ #[t',t'] ty #[.slice da (xs.length-K) dc,.slice sa us.length sc]).run P w=.ok (goInt (Nat.min us.length (xs.length-K))) w' ∧
   Hp M0 w0 w' B (Ro enc e 1 (.slice ao (yz K xs us).length c) (yz K xs us)::R.eraseIdx j) F:=by
 obtain ⟨i0,hi0,hz0,hsz0,hb0⟩:=hT.inf
 have hs1:(P.info? e).map (·.size)=some 1:=by simp_all
 have hown:=hp.row _ (qBl hR)
 by_cases hn:Nat.min us.length (xs.length-K)=0
 ·have hov:yz K xs us=xs:=by
   unfold yz
   rcases Nat.eq_zero_or_pos us.length with h0 | h0
   ·simp_all
   ·have h1:xs.length-K=0:=by
     grind
    grind [qBu,qCr]
  rw[hov,hn]
  exact ⟨w,run_copy_none w t' t' ty e da sa _ dc _ sc ht hs1 hn,hp.swapRow hR hown (.inl ⟨rfl,Keeps.of_heap rfl rfl rfl rfl⟩)⟩
 ·have hmin:Nat.min us.length (xs.length-K)=min us.length (xs.length-K):=rfl
  rcases hown.2 with ⟨_,h6⟩ | ⟨g,cap,cur,h5,_,hgg,hnc,hcm,hcs,htake⟩
  ·have h6':xs.length=0:=h6
   omega
  ·have h5':Value.slice ao xs.length c=.slice (some ⟨g,0,none⟩) xs.length cap:=h5
   simp only[Value.slice.injEq,true_and] at h5'
   obtain ⟨rfl,rfl⟩:=h5'
   have hda':=hda g rfl (by omega)
   subst hda'
   have hgg':w.heap[g]?=some (.cells cur e (0,0)):=hgg
   have hcs':cur.size=c*1:=hcs
   have hnc':xs.length≤c:=hnc
   have htake':cur.toList.take (xs.length*1)=xs.flatMap enc:=htake
   obtain ⟨a1,cap1,hv1,_,_,hsp,hcell⟩:=hsrc.val
   simp only[Value.slice.injEq,true_and] at hv1
   obtain ⟨rfl,rfl⟩:=hv1
   have husl:=qgj henc us
   have hne:us.flatMap enc≠[]:=fun h0=>by grind
   have hpos:0<(us.flatMap enc).length:=by omega
   obtain ⟨ad,hsa,_⟩:=hcell 0 _ (qBk hpos)
   have hspot:ad.spot=none:=(hsp ad hsa).resolve_left hne
   generalize hcn:Nat.min us.length (xs.length-K)=cn at *
   have hcsl:((us.flatMap enc).take cn).length=cn:=by grind
   have hone:∀ v∈(us.flatMap enc).take cn,v.oneCell'=true:=by
    intro v hv
    obtain ⟨u,_,hv⟩:=List.mem_flatMap.1 (qC2 hv)
    exact qBX.1 (henc.ok u) v hv
   have hrun:=run_copy_row P w t' t' ty e g K (xs.length-K) dc ad us.length sc cur e ((us.flatMap enc).take cn) ht hs1 hgg' (by omega) (fun q v hq=>by
    grind [qdx]) (by omega) hone
   rw[hcsl] at hrun
   subst hsa
   refine ⟨_,hrun,hp.swapRow hR ?_ (.inl ⟨rfl,⟨rfl,rfl,rfl,by simp,fun q _ hq=>setRow_other w g q _ (fun e=>hq (by grind [Value.ownBlock])),fun _=>qBw _⟩⟩)⟩
   have hyl:=qec (xs:=xs) (ys:=us) hK
   refine ⟨by show ((yz K xs us).flatMap enc).length=_*1;exact qQ henc _,.inr ⟨g,c,_,rfl,qBH _,setRow_heap w g cur _ e _ hgg',?_,hcm,?_,?_⟩⟩
   ·show (yz K xs us).length≤c;omega
   ·show _=c*1
    grind
   ·show List.take ((yz K xs us).length*1) _=(yz K xs us).flatMap enc
    rw[hyl,qCd]
    rw[qCd] at htake'
    apply qBU
    intro q
    have hx1:∀ p,p<xs.length→cur.toList[p]?=(xs.flatMap enc)[p]?:=fun p hp=>by grind
    have f1:(yz K xs us).flatMap enc=(xs.flatMap enc).take K++(us.flatMap enc).take (xs.length-K)++(xs.flatMap enc).drop (K+us.length):=by
     unfold yz
     rw[qCQ,qCQ]
     have g1:∀ (k:Nat) (ys:List α),(ys.take k).flatMap enc=(ys.flatMap enc).take k:=fun k ys=>by
      have:=qdc henc (i:=k) (xs:=ys)
      grind
     have g2:∀ (k:Nat) (ys:List α),(ys.drop k).flatMap enc=(ys.flatMap enc).drop k:=fun k ys=>by
      by_cases hk:k≤ys.length
      ·have h1:ys.flatMap enc=(ys.take k).flatMap enc++(ys.drop k).flatMap enc:=by grind [qCk]
       grind [qgj]
      grind [qBu,qgj]
     grind
    rw[f1]
    have hxl:=qgj henc xs
    by_cases hq:q<xs.length
    ·grind
    grind
theorem qt9 {s:Operand}{i c sc:Nat}{sa:Option Addr}{k:List α→Option ρ}(henc:EncOk enc 1)(hw:wants ops l ⟨some d,.call ⟨.builtin .copy,#[x,s],#[t',t']⟩,t,pos,af,gd⟩=some true)(ht:P.underlying t'=some (.slice e))(hT:TyF P e agg z 1 bytes)(hx:ev l x=some (.slice ao xs.length c))(hs:ev l s=some (.slice sa us.length sc))(hR:R[j]?=some (Ro enc e 1 (.slice ao xs.length c) xs))(hF:F[i]?=some (Sl enc 1 (.slice sa us.length sc) us))(hd:Nat.blt d n=true)(h:∀ ys,yz 0 xs us=ys→Value.slice ao xs.length c=.slice ao ys.length c→SXO P ro n D M0 w0 Q ops rest ((d,.int .i64 ((min us.length xs.length:Nat):Int))::l) B (Ro enc e 1 (.slice ao ys.length c) ys::R.eraseIdx j) F (k ys) r) :
  SXO P ro n D M0 w0 Q ops (⟨some d,.call ⟨.builtin .copy,#[x,s],#[t',t']⟩,t,pos,af,gd⟩::rest) l B R F (lett (yz 0 xs us) k) r:=by
 refine kS hw fun hm a w hf hp=>?_
 obtain ⟨w',hrun,hp'⟩:=qpb (K:=0) (da:=ao) (dc:=c) (ty:=t) henc (qBH _) ht hT hp hR (fun g hg _=>by rw[hg]) (hp.per _ (qBl hF)).here
 have e1:=hf.ev hx
 have e2:=hf.ev hs
 rw[Nat.sub_zero] at hrun
 refine ⟨_,w',?_,h _ rfl (by rw[qec (qBH _)]) hm _ _ (hf.put hd _) hp'⟩
 generalize a.eval=ε at e1 e2 ⊢
 simp[execOp,resolve,invoke,builtin,e1,e2,hrun,goInt]
theorem qua {s:Operand}{c c1 c2:Nat}{li mi:Int}{a1 a2:Option Addr}{ys:List α}{k:List α→Option ρ}(henc:EncOk enc 1)(hw:wants ops l ⟨some d,.call ⟨.builtin .copy,#[x,s],#[t',t']⟩,t,pos,af,gd⟩=some true)(ht:P.underlying t'=some (.slice e))(hT:TyF P e agg z 1 bytes)(hq1:sub xs li (xs.length:Int)=some ys)(hv1:cutv ao c 1 li (xs.length:Int)=.slice a1 ys.length c1)(hq2:sub xs 0 mi=some us)(hv2:cutv ao c 1 0 mi=.slice a2 us.length c2)(hx:ev l x=some (.slice a1 ys.length c1))(hs:ev l s=some (.slice a2 us.length c2))(hR:R[j]?=some (Ro enc e 1 (.slice ao xs.length c) xs))(hd:Nat.blt d n=true)(h:∀ zs,yz li.toNat xs us=zs→Value.slice ao xs.length c=.slice ao zs.length c→SXO P ro n D M0 w0 Q ops rest ((d,.int .i64 ((min us.length ys.length:Nat):Int))::l) B (Ro enc e 1 (.slice ao zs.length c) zs::R.eraseIdx j) F (k zs) r) :
  SXO P ro n D M0 w0 Q ops (⟨some d,.call ⟨.builtin .copy,#[x,s],#[t',t']⟩,t,pos,af,gd⟩::rest) l B R F (lett (yz li.toNat xs us) k) r:=by
 refine kS hw fun hm a w hf hp=>?_
 obtain ⟨p1,p2,p3,p4⟩:=qdi hq1
 obtain ⟨q1,q2,q3,q4⟩:=qdi hq2
 obtain ⟨L,rfl⟩:=qBm p1
 obtain ⟨M,rfl⟩:=qBm q2
 rw[qBo] at *
 have hyl:ys.length=xs.length-L:=by simp_all
 have hul:us=xs.take M:=by simp_all
 unfold cutv at hv1 hv2
 simp only[Value.slice.injEq,qBo,qCd] at hv1 hv2
 have hown:=hp.row _ (qBl hR)
 have hcells:Cells (.slice ao xs.length c) xs.length 1 (xs.flatMap enc) w:=zd hown
 have ha2:a2=ao:=by
  rw[← hv2.1]
  split
  ·rfl
  ·cases ao with
   | none=>rfl
   | some ad=>rfl
 obtain ⟨w',hrun,hp'⟩:=qpb (K:=L) (da:=a1) (dc:=c1) (sa:=a2) (us:=us) (sc:=c2) (ty:=t) henc (by omega) ht hT hp hR (fun g hg hlt=>by
   rw[← hv1.1,hg]
   have hcap:xs.length≤c:=by
    obtain ⟨_,cap,hv,h2,_⟩:=hcells.val
    grind
   grind [qb7]) (by
   obtain ⟨a',cap,hv,h2,h3,h4,h5⟩:=hcells.val
   simp only[Value.slice.injEq,true_and] at hv
   obtain ⟨rfl,rfl⟩:=hv
   have hfl:=qgj henc xs
   have hful:=qgj henc us
   have hle:us.length≤xs.length:=by omega
   refine ⟨⟨a2,c2,rfl,by omega,by omega,?_,?_⟩,by omega⟩
   ·grind
   ·intro q u hq
    have hlt:q<us.length:=by grind
    have:(xs.flatMap enc)[q]?=some u:=by
     have e3:us.flatMap enc=(xs.flatMap enc).take M:=by
      rw[hul]
      have:=qdc henc (i:=M) (xs:=xs)
      grind
     grind
    grind)
 have e1:=hf.ev hx
 have e2:=hf.ev hs
 rw[← hyl] at hrun
 refine ⟨_,w',?_,h _ rfl (by rw[qec (by omega)]) hm _ _ (hf.put hd _) hp'⟩
 generalize a.eval=ε at e1 e2 ⊢
 simp[execOp,resolve,invoke,builtin,e1,e2,hrun,goInt]
theorem qt3 {x:Code}{size c:Nat}{k:List α→Option ρ}{li hj:Int}(j:Nat)(hR:R[j]?=some (Ro enc e size (.slice ao xs.length c) xs))(h:∀ ys,sub xs li hj=some ys→∀ a' c',cutv ao c size li hj=.slice a' ys.length c'→xs.length≤c→SXC P ro n D M0 w0 Q x l B R F (k ys) r) :
  SXC P ro n D M0 w0 Q x l B R F ((sub xs li hj).bind k) r:=by
 intro hm a w hf hp
 cases hq:sub xs li hj with
 | none=>simp_all
 | some ys =>
  rw[hq] at hm
  have hm':k ys=some r:=by grind
  obtain ⟨_,cap,hv,h2,_⟩:=(zd (hp.row _ (qBl hR))).val
  have hv:Value.slice ao xs.length c=.slice _ xs.length cap:=hv
  simp only[Value.slice.injEq,true_and] at hv
  have h2:xs.length≤cap:=h2
  obtain ⟨b1,b2,b3,b4⟩:=qdi hq
  have hyl:ys.length=hj.toNat-li.toNat:=by simp_all
  exact h ys hq _ _ (by unfold cutv;rw[hyl]) (by omega) hm' a w hf hp
end rules
def qv (a:Option Addr)(h n c size:Nat):Value:=match h with
 | 0=>.slice a n c
 | k+1=>.slice (if c-(k+1)=0 then a.map (·.add (k*size)) else a.map (·.add ((k+1)*size))) n (c-(k+1))
theorem qv2 (a:Option Addr)(h n c size:Nat):∃ p q,qv a h n c size=.slice p n q:=by
 cases h <;> exact ⟨_,_,rfl⟩
theorem qv1 {c h:Nat}{hs xs:List Value}(hl:hs.length=h*size)(hx:xs.length=n*size)(ho:w.ownsRow 0 e size (.slice a (h+n) c) (h+n) (hs++xs)):Cells (qv a h n c size) n size xs w:=by
 cases h with
 | zero =>
  have:hs=[]:=qBO (by omega)
  subst this
  have:=zd ho
  simp only[qB9,qBF] at this
  exact this
 | succ k =>
  rcases ho.2 with ⟨h5,h6⟩ | ⟨g,cap,cur,h5,_,hgg,hnc,hcm,hcs,htake⟩
  ·omega
  ·simp only[Value.slice.injEq,true_and] at h5
   obtain ⟨rfl,rfl⟩:=h5
   unfold qv
   refine ⟨⟨_,_,rfl,by omega,by omega,fun ad e=>.inr ?_,fun j u hj=>?_⟩,hx⟩
   ·grind [Addr.add_lit]
   ·have hj1:=(qBC.1 hj).1
    have hn:0<n:=Nat.pos_of_ne_zero (by grind)
    rw[if_neg (by omega)]
    refine ⟨⟨g,(k+1)*size,none⟩,by simp[Addr.add_lit],?_⟩
    have hcell:=(zd ho).val
    obtain ⟨a1,cap1,e1,_,_,_,hc⟩:=hcell
    simp only[Value.slice.injEq,true_and] at e1
    obtain ⟨rfl,rfl⟩:=e1
    simp_all
theorem qpP (w:World){ty:TypeId}(ht:P.underlying t=some (.slice e))(hT:TyF P e agg z size bytes)(hzs:z.cells.size=size){c h:Nat}{hs xs:List Value}(hl:hs.length=h*size)(hxl:xs.length=n*size)(hown:w.ownsRow 0 e size (.slice a (h+n) c) (h+n) (hs++xs)){u:Value}{m:Nat}{news:List Value}(hu:Cells u m size news w)(h1:qdX news=true)(h63:n+m≤maxLen)(hbytes:(n+m)*bytes≤140737488355328) :
  ∃ a' c' v' w',(Builtin.append_ #[t,t] ty #[qv a h n c size,u]).run P w=.ok v' w' ∧
   ((v'=qv a' h (n+m) c' size∧w'.ownsRow 0 e size (.slice a' (h+(n+m)) c') (h+(n+m)) (hs++(xs++news))∧(((Value.slice a' (h+(n+m)) c').ownBlock=(Value.slice a (h+n) c).ownBlock∧Keeps (Value.slice a (h+n) c).ownBlock.toList w w')∨(Keeps [] w w'∧∀ g,(Value.slice a' (h+(n+m)) c').ownBlock=some g→w.heap.size≤g))) ∨
    (v'=.slice a' (n+m) c'∧w'.ownsRow 0 e size (.slice a' (n+m) c') (n+m) (xs++news)∧Keeps [] w w'∧∀ g,(Value.slice a' (n+m) c').ownBlock=some g→w.heap.size≤g)):=by
 cases h with
 | zero =>
  have:hs=[]:=qBO (by omega)
  subst this
  simp only[qB9,qBF] at hown ⊢
  obtain ⟨v',w',hr,ho,hk⟩:=qkd (P:=P) (ty:=ty) w ht hT hzs hown hu h1 h63 hbytes
  have hv:∃ a' c',v'=.slice a' (n+m) c':=by
   rcases ho.2 with ⟨rfl,h0⟩ | ⟨g,cap,cur,rfl,_⟩
   ·exact ⟨none,0,by rw[h0]⟩
   ·exact ⟨_,_,rfl⟩
  obtain ⟨a',c',rfl⟩:=hv
  exact ⟨a',c',_,w',hr,.inl ⟨rfl,ho,hk⟩⟩
 | succ k =>
  obtain ⟨i,hi,hz,hsz,hby⟩:=hT.inf
  subst hsz;subst hby
  have hq:=qv1 hl hxl hown
  rcases hown.2 with ⟨h5,h6⟩ | ⟨g,cap,cur,h5,hbg,hg,hnc,hcm,hcs,htake⟩
  ·omega
  simp only[Value.slice.injEq,true_and] at h5
  obtain ⟨rfl,rfl⟩:=h5
  have h1':∀ v∈news,v.oneCell'=true:=qBX.1 h1
  have hsmall:n+m≤9223372036854775807:=by simp only[maxLen] at h63;omega
  have hlen:(xs++news).length=(n+m)*i.size:=by rw[qBr,hxl,hu.len,qB4]
  have hlo:(Builtin.lenOf u)=pure m:=by
   obtain ⟨⟨a,cap,rfl,_⟩,_⟩:=hu;rfl
  have hfc:∀ w',w'.heap=w.heap→(Builtin.firstCells i.size m u).run P w'=.ok news.toArray w':=fun w' hh=>jJ (hu.heap hh)
  have hfo:∀ w',w'.heap=w.heap→(Builtin.firstCells i.size n (qv (some ⟨g,0,none⟩) (k+1) n c i.size)).run P w'=.ok xs.toArray w':=fun w' hh=>jJ (hq.heap hh)
  by_cases hroom:n+m≤c-(k+1)
  ·by_cases hc0:c-(k+1)=0
   ·have hn0:n=0:=by omega
    have hm0:m=0:=by omega
    subst hn0 hm0
    have hn:news=[]:=qBO (by simpa using hu.len)
    subst hn
    refine ⟨some ⟨g,0,none⟩,c,_,w,?_,.inl ⟨rfl,by simpa using hown,.inl ⟨rfl,Keeps.refl _ _⟩⟩⟩
    have hf:=hfc w rfl
    simp[qv,Builtin.append_,run_underlying ht,Go.sizeOf,typeInfo,hi,hlo,hf,hc0,storeCells]
   ·have hfit:((k+1)*i.size+n*i.size)+news.length≤cur.size:=by rw[hu.len,hcs,← qB4,← qB4];exact qBN _ (by omega)
    have hst:=run_storeCells_at P g ((k+1)*i.size+n*i.size) e news 0 cur w hg (by simpa using hfit) h1'
    simp only[Nat.add_zero] at hst
    have hf:=hfc w rfl
    have hall:(hs++(xs++news)).length=(k+1+(n+m))*i.size:=by rw[qBr,hlen,hl,← qB4]
    have hhx:(hs++xs).length=(k+1)*i.size+n*i.size:=by rw[qBr,hl,hxl]
    refine ⟨some ⟨g,0,none⟩,c,_,w.setRow g (cur.toList.take ((k+1)*i.size+n*i.size)++news++cur.toList.drop ((k+1)*i.size+n*i.size+news.length)).toArray,?_,.inl ⟨rfl,⟨hall,.inr ⟨g,c,_,rfl,hbg,setRow_heap w g cur _ e _ hg,by omega,hcm,?_,?_⟩⟩,.inl ⟨rfl,⟨rfl,rfl,rfl,by simp,fun k _ hk=>setRow_other w g k _ (fun e=>hk (by simp[Value.ownBlock,e])),fun _=>qBw _⟩⟩⟩⟩
    ·simp[qv,Builtin.append_,run_underlying ht,Go.sizeOf,typeInfo,hi,hlo,hroom,hf,Addr.add_lit,hst,hc0]
    ·simp only[qCg,qBr,qB7,qCc,Array.length_toList]
     omega
    ·rw[qB4] at htake
     rw[htake,← hall,← qBt]
     exact qCt
  ·have hge:=grownCap_ge w (n+m) (c-(k+1)) e
   have hcm':grownCap w (n+m) (c-(k+1)) e≤maxLen:=grownCap_le_maxLen w (n+m) (c-(k+1)) e h63
   have hgr:(w.drew.alloc (.cells (xs.toArray++news.toArray++Builtin.zeroCells z.cells (grownCap w (n+m) (c-(k+1)) e-(n+m))) e)).ownsRow 0 e i.size
     (.slice (some ⟨w.heap.size,0,none⟩) (n+m) (grownCap w (n+m) (c-(k+1)) e)) (n+m) (xs++news) ∧
     Keeps [] w (w.drew.alloc (.cells (xs.toArray++news.toArray++Builtin.zeroCells z.cells (grownCap w (n+m) (c-(k+1)) e-(n+m))) e)):=by
    refine ⟨⟨hlen,.inr ⟨w.heap.size,_,_,rfl,qBH _,heap_alloc_new w.drew _,hge,hcm',?_,?_⟩⟩,⟨rfl,rfl,rfl,by simp,fun k hk _=>Go.RowKit.Below.heap_alloc w.drew _ k hk,fun _=>Nat.le_succ _⟩⟩
    ·simp only[Array.size_append,qCg,size_zeroCells,hzs,hxl,hu.len,← qB4]
     congr 1
     omega
    ·simp only[Array.toList_append,qBt]
     rw[← qBt,← hlen]
     exact qCt
   refine ⟨_,_,_,_,?_,.inr ⟨rfl,hgr.1,hgr.2,by simp[Value.ownBlock]⟩⟩
   have hf:=hfc w.drew rfl
   have hf0:=hfo w.drew rfl
   have hmx:¬ (9223372036854775807:Int)<(n:Int)+(m:Int):=by omega
   have h48':¬ Builtin.nextslicecap (n+m) (c-(k+1))*i.bytes > 2^48:=by simpa using qaG (by omega) hbytes
   obtain ⟨p,hp⟩:∃ p,qv (some ⟨g,0,none⟩) (k+1) n c i.size=.slice p n (c-(k+1)):=⟨_,rfl⟩
   rw[hp] at hf0 ⊢
   simp[Builtin.append_,run_underlying ht,Go.sizeOf,typeInfo,zeroValue,hi,hz,hlo,hroom,hmx,h48',Question.forced,hf,hf0,newRow,grownCap]
   simp only[← Array.append_assoc,qC5]
section rules
variable {P:Program} {ro:Option Nat} {n:Nat} {D:List Deferred} {M0:List Nat} {w0:World} {Q:Exit→Act→World→Prop} {ρ:Type}
variable {ops:Array Oper} {rest:List Oper} {l:Env} {B:List BlkD} {R:List RowD} {F:List (World→Prop)} {m:Option ρ} {r:ρ}
variable {d:Nat} {t t' e:TypeId} {pos:String} {af:Array Edge} {gd:Option (Nat×Bool)} {agg:Bool} {z:Value} {size bytes:Nat}
variable {α:Type} {enc:α→List Value} {xs hs:List α}
theorem qwO {s e':TypeId}{h k c size:Nat}(hw:wants ops l ⟨some d,.call ⟨.builtin .len,#[x],#[s]⟩,t,pos,af,gd⟩=some true)(ht:P.underlying s=some (.slice e'))(hx:ev l x=some (qv a h k c size))(hd:Nat.blt d n=true)(hh:SXO P ro n D M0 w0 Q ops rest ((d,.int .i64 (k:Int))::l) B R F m r):SXO P ro n D M0 w0 Q ops (⟨some d,.call ⟨.builtin .len,#[x],#[s]⟩,t,pos,af,gd⟩::rest) l B R F m r:=by
 obtain ⟨p,q,hq⟩:=qv2 a h k c size
 exact qol hw ht (hx.trans (congrArg some hq)) hd hh
theorem qx9 {y:α}(h:idx xs i=some y):(hs++xs)[hs.length+i.toNat]?=some y:=by
 rw[qCs (by omega),Nat.add_sub_cancel_left]
 exact (qw h).2.2
theorem qsP {c:Nat}(ho:(Ro enc e size (.slice a xs.length c) xs).own w)(hn:0<xs.length):∃ g,a=some ⟨g,0,none⟩∧xs.length≤c:=by
 rcases ho.2 with ⟨_,h3⟩ | ⟨g,cap,cur,hv,_,_,h4,_⟩
 ·have:xs.length=0:=h3
  omega
 ·have hv':Value.slice a xs.length c=.slice (some ⟨g,0,none⟩) xs.length cap:=hv
  simp only[Value.slice.injEq,true_and] at hv'
  have h4':xs.length≤cap:=h4
  simp_all
theorem qrn {k:α→Option ρ}{ki:IntKind}{c:Nat}(hw:wants ops l ⟨some d,.indexAddr t' x ix,t,pos,af,gd⟩=some true)(ht:P.underlying t'=some (.slice e))(hT:TyF P e agg z size bytes)(hx:ev l x=some (qv a hs.length xs.length c size))(hi:ev l ix=some (.int ki i))(hR:R[j]?=some (Ro enc e size (.slice a (hs++xs).length c) (hs++xs)))(hd:Nat.blt d n=true)(h:∀ y,idx xs i=some y→∀ g,(Value.slice a (hs++xs).length c).ownBlock=some g→SXO P ro n D M0 w0 Q ops rest ((d,.pointer (some ⟨g,(hs.length+i.toNat)*size,none⟩))::l) B R F (k y) r) :
  SXO P ro n D M0 w0 Q ops (⟨some d,.indexAddr t' x ix,t,pos,af,gd⟩::rest) l B R F ((idx xs i).bind k) r:=by
 refine kS hw fun hm ac w hf hp=>?_
 cases hq:idx xs i with
 | none=>simp_all
 | some y =>
  rw[hq] at hm
  have hm':k y=some r:=by grind
  obtain ⟨h0,h1,_⟩:=qw hq
  have hown:=hp.row _ (qBl hR)
  obtain ⟨g,rfl,hcap⟩:=qsP hown (by grind)
  rw[qBr] at hcap
  refine ⟨.pointer (some ⟨g,(hs.length+i.toNat)*size,none⟩),w,?_,h y hq g rfl hm' _ _ (hf.put hd _) hp⟩
  have h2:=hf.ev hx
  have h3:=hf.ev hi
  have hv:qv (some ⟨g,0,none⟩) hs.length xs.length c size=.slice (some ⟨g,hs.length*size,none⟩) xs.length (c-hs.length):=by
   cases hh:hs.length with
   | zero=>simp[qv]
   | succ k =>
    grind [qv,Addr.add_lit]
  rw[hv] at h2
  have hlt':i<(xs.length:Int):=by omega
  generalize ac.eval=ε at h2 h3 ⊢
  have e1:hs.length*size+i.toNat*size=(hs.length+i.toNat)*size:=(qB4 _ _ _).symm
  simp[execOp,h2,h3,Instr.indexAt,asIntOf,run_underlying ht,hT.run_size,h0,hlt',qb7,e1]
theorem qwK {k:List α→Option ρ}{lo:Option Operand}{c:Nat}(hw:wants ops l ⟨some d,.slice t' x lo none none,t,pos,af,gd⟩=some true)(ht:P.underlying t'=some (.slice e))(hT:TyF P e agg z size bytes)(hx:ev l x=some (qv a hs.length xs.length c size))(hlo:evOpt l lo 0=some 1)(hR:R[j]?=some (Ro enc e size (.slice a (hs++xs).length c) (hs++xs)))(hd:Nat.blt d n=true)(h:∀ ys,sub xs 1 (xs.length:Int)=some ys→∀ h':List α,SXO P ro n D M0 w0 Q ops rest ((d,qv a h'.length ys.length c size)::l) B (Ro enc e size (.slice a (h'++ys).length c) (h'++ys)::R.eraseIdx j) F (k ys) r) :
  SXO P ro n D M0 w0 Q ops (⟨some d,.slice t' x lo none none,t,pos,af,gd⟩::rest) l B R F ((sub xs 1 (xs.length:Int)).bind k) r:=by
 refine kS hw fun hm ac w hf hp=>?_
 cases hq:sub xs 1 (xs.length:Int) with
 | none=>simp_all
 | some ys =>
  rw[hq] at hm
  have hm':k ys=some r:=by grind
  obtain ⟨_,b2,b3,hys⟩:=qdi hq
  have hown:=hp.row _ (qBl hR)
  obtain ⟨g,rfl,hcap⟩:=qsP hown (by grind)
  rw[qBr] at hcap
  obtain ⟨y,ys',rfl⟩:∃ y ys',xs=y::ys':=by
   cases xs with
   | nil=>grind
   | cons y ys'=>simp
  have hys':ys=ys':=by simp_all
  subst hys'
  have happ:hs++y::ys=(hs++[y])++ys:=by simp
  have hH:=hp.swapRow (r':=Ro enc e size (.slice (some ⟨g,0,none⟩) ((hs++[y])++ys).length c) ((hs++[y])++ys)) hR (by grind) (.inl ⟨rfl,Keeps.refl _ _⟩)
  refine ⟨qv (some ⟨g,0,none⟩) (hs++[y]).length ys.length c size,w,?_,h ys hq (hs++[y]) hm' _ _ (hf.put hd _) hH⟩
  have h1:=hf.ev hx
  have e2:=qdz hf hlo
  rw[qBr,List.length_singleton]
  simp only[qBQ] at h1 hcap
  have hv:qv (some ⟨g,0,none⟩) hs.length (ys.length+1) c size=.slice (some ⟨g,hs.length*size,none⟩) (ys.length+1) (c-hs.length):=by
   cases hh:hs.length with
   | zero=>simp[qv]
   | succ k =>
    unfold qv
    simp only
    rw[if_neg (by omega)]
    simp[Addr.add_lit]
  have hv2:qv (some ⟨g,0,none⟩) (hs.length+1) ys.length c size=.slice (if c-(hs.length+1)=0 then some ⟨g,hs.length*size,none⟩ else some ⟨g,hs.length*size+1*size,none⟩) ys.length (c-(hs.length+1)):=by
   unfold qv
   simp[Addr.add_lit,qB4]
  rw[hv] at h1
  rw[hv2]
  generalize hε:ac.eval=ε at h1 e2 ⊢
  have hc1:((c-hs.length=1)↔(c-(hs.length+1)=0)):=by omega
  have hc2:c-hs.length-1=c-(hs.length+1):=by omega
  have hb2:((ys.length:Int)+1≤((c-hs.length:Nat):Int)):=by omega
  rcases e2 with ⟨k2,e2⟩ | ⟨rfl,e2⟩
  ·by_cases hz:c-(hs.length+1)=0
   ·have h9:=hc1.2 hz
    simp[execOp,h1,e2,Instr.sliceAt,Instr.slice,Instr.sliceBounds,Instr.sliceBound,asIntOf,run_underlying ht,hT.run_size,Addr.add_lit,hz,h9]
    omega
   ·have h9:¬ c-hs.length=1:=fun h=>hz (hc1.1 h)
    simp[execOp,h1,e2,Instr.sliceAt,Instr.slice,Instr.sliceBounds,Instr.sliceBound,asIntOf,run_underlying ht,hT.run_size,Addr.add_lit,hz,h9,hc2]
    omega
  omega
theorem qwG {ys:List α}{k:List α→Option ρ}{s:Operand}{u:Value}{lim:Nat}{c:Nat}(i:Nat)(henc:EncOk enc size)(hw:wants ops l ⟨some d,.call ⟨.builtin .append,#[s,x],#[t',t']⟩,t,pos,af,gd⟩=some true)(ht:P.underlying t'=some (.slice e))(hT:TyF P e agg z size bytes)(hzs:z.cells.size=size)(hd:Nat.blt d n=true)(hs1:ev l s=some (qv a hs.length xs.length c size))(hx:ev l x=some u)(hR:R[i]?=some (Ro enc e size (.slice a (hs++xs).length c) (hs++xs)))(hu:(∃ (j:Nat) (e':TypeId),R[j]?=some (Ro enc e' size u ys))∨(∃ (j:Nat),F[j]?=some (Sl enc size u ys)))(hlim:Nat.ble lim 9223372036854775807=true)(hlb:Nat.ble (lim*bytes) 140737488355328=true)(h:∀ zs,app lim xs ys=some zs→∀ (a:Option Addr) (c:Nat) (h':List α),SXO P ro n D M0 w0 Q ops rest ((d,qv a h'.length zs.length c size)::l) B (Ro enc e size (.slice a (h'++zs).length c) (h'++zs)::R.eraseIdx i) F (k zs) r) :
  SXO P ro n D M0 w0 Q ops (⟨some d,.call ⟨.builtin .append,#[s,x],#[t',t']⟩,t,pos,af,gd⟩::rest) l B R F ((app lim xs ys).bind k) r:=by
 refine kS hw fun hm ac w hf hp=>?_
 cases hq:app lim xs ys with
 | none=>simp_all
 | some zs =>
  rw[hq] at hm
  have hm':k zs=some r:=by grind
  have hq':=hq
  unfold app at hq
  split at hq
  ·rename_i hle
   simp only[qBs] at hq
   subst hq
   have hlim':=qBZ hlim
   have hlb':=qBZ hlb
   have h1:=hf.ev hs1
   have h2:=hf.ev hx
   have hsrc:Cells u ys.length size (ys.flatMap enc) w:=qm0 hp (by
    rcases hu with ⟨j,e',h⟩ | ⟨j,h⟩
    ·exact .inl ⟨j,e',h⟩
    ·exact .inr ⟨j,h⟩)
   have hown:w.ownsRow 0 e size (.slice a (hs.length+xs.length) c) (hs.length+xs.length) (hs.flatMap enc++xs.flatMap enc):=by
    have:=hp.row _ (qBl hR)
    have h9:w.ownsRow 0 e size (.slice a (hs++xs).length c) (hs++xs).length ((hs++xs).flatMap enc):=this
    simp_all
   obtain ⟨a',c',v',w',hr,hcase⟩:=qpP (P:=P) (ty:=t) w ht hT hzs (qQ henc hs) (qQ henc xs) hown hsrc (henc.okAll ys)
    (by grind [maxLen]) (by show (xs.length+ys.length)*bytes≤_;exact Nat.le_trans (qBN _ hle) hlb')
   rcases hcase with ⟨rfl,ho,hk⟩ | ⟨rfl,ho,hk⟩
   ·have hn1:(xs++ys).length=xs.length+ys.length:=qBr
    have hn2:(hs++(xs++ys)).length=hs.length+(xs.length+ys.length):=by simp
    refine ⟨qv a' hs.length (xs++ys).length c' size,w',by rw[hn1];generalize ac.eval=ε at h1 h2 ⊢;simp[execOp,resolve,invoke,builtin,h1,h2,hr],h _ hq' a' c' hs hm' _ _ (hf.put hd _) (hp.swapRow hR ?_ ?_)⟩
    ·show w'.ownsRow 0 e size (.slice a' (hs++(xs++ys)).length c') (hs++(xs++ys)).length ((hs++(xs++ys)).flatMap enc)
     simp_all
    grind [Ro]
   ·have hn1:(xs++ys).length=xs.length+ys.length:=qBr
    refine ⟨.slice a' (xs++ys).length c',w',by rw[hn1];generalize ac.eval=ε at h1 h2 ⊢;simp[execOp,resolve,invoke,builtin,h1,h2,hr],h _ hq' a' c' [] hm' _ _ (hf.put hd _) (hp.swapRow hR ?_ (.inr ⟨hk.1,?_⟩))⟩
    ·show w'.ownsRow 0 e size (.slice a' ([]++(xs++ys)).length c') ([]++(xs++ys)).length (([]++(xs++ys)).flatMap enc)
     simp_all
    ·intro g hg
     refine hk.2 g ?_
     rw[← hn1];exact hg
  simp_all
end rules
end SX
namespace SX
open Go Go.Sort Go.Proofs
set_option linter.unusedSectionVars false
variable [DM]
def CellsW (w:World)(blk N:Nat)(W:World):Prop:=∃ (m:Nat) (os:Array Obj) (A:Array Value),A.size=N∧W=grow (putRow id (ahead w m) blk 0 A) os
def qnz (P:Program)(f g:FuncId)(k:Nat)(arg:List Value→Value)(cb:Array Value):Prop :=
 ∀ (α:Type) [Inhabited α] (enc:α→List Value),(∀ x,(enc x).length=k)→(∀ x,∀ v∈enc x,v.oneCell'=true)→∀ (cf:α→α→Int),SWO (ltOf cf)→(∀ x y,ltOf cf x y=false→ltOf cf y x=false→x=y) →
  ∀ (blk cap:Nat) (d:Array α) (w:World),
   (∀ W,CellsW w blk (d.size*k) W→∀ x y:α,Calls P g (#[arg (enc x),arg (enc y)]++cb) W fun e w'=>e=.returned (.int .i64 (cf x y))∧∃ q os',w'=grow (W.drewN q) os') →
   HoldsK enc k w blk 0 d→blk<w.heap.size→d.size<4611686018427387904 →
   Calls P f #[.slice (some ⟨blk,0,none⟩) d.size cap,.func (.func g) #[] cb] w fun e w' =>
    e=.returned (.tuple #[])∧∃ n os,w'=grow (putRow id (ahead w n) blk 0 (flatK enc k (d.toList.mergeSort fun x y=>!(ltOf cf) y x).toArray)) os
theorem qtX {P:Program}{f g k:Nat}{cb:Array Value}(h:∀ (α:Type) [Inhabited α] (enc:α→List Value),(∀ x,(enc x).length=k)→(∀ x,∀ v∈enc x,v.oneCell'=true)→∀ (cf:α→α→Int),SWO (ltOf cf)→∀ (blk cap:Nat) (d:Array α) (w:World),CmpLays P g cb enc k cf blk 0 d.size w→HoldsK enc k w blk 0 d→blk<w.heap.size→d.size<4611686018427387904→(∀ x y,ltOf cf x y=false→ltOf cf y x=false→x=y) →
   Calls P f #[.slice (some ⟨blk,0,none⟩) d.size cap,.func (.func g) #[] cb] w fun e w'=>e=.returned (.tuple #[])∧∃ n os,w'=sortWorldK enc k w blk 0 n (d.toList.mergeSort fun x y=>!(ltOf cf) y x).toArray os) :
  qnz P f g k (fun l=>.agg l.toArray) cb:=by
 intro α _ enc hk h1 cf hO hT blk cap d w hc hH hb hsz
 refine h α enc hk h1 cf hO blk cap d w (fun m os dk hdk x y=>?_) hH hb hsz hT
 exact hc _ ⟨m,os,flatK enc k dk,by simp_all,rfl⟩ x y
theorem qpE {A cur:Array Value}(h:A.size≤cur.size):(putCells id 0 A cur).toList.take A.size=A.toList:=by
 apply qBU
 intro j
 unfold putCells
 grind
theorem qpF {w:World}{g e:Nat}{fz:Nat×Nat}{cur A:Array Value}(h:w.heap[g]?=some (.cells cur e fz)):(putRow id w g 0 A).heap[g]?=some (.cells (putCells id 0 A cur) e fz):=by
 unfold putRow mapBlock
 show (w.heap.modify g _)[g]?=_
 rw[Array.getElem?_modify,if_pos rfl,h]
 rfl
theorem qlu {w:World}{g k:Nat}{A:Array Value}(h:k≠g):(putRow id w g 0 A).heap[k]?=w.heap[k]?:=by
 grind [putRow,mapBlock]
theorem qht {w:World}{g n:Nat}{A:Array Value}{os:Array Obj}:Keeps [g] w (grow (putRow id (ahead w n) g 0 A) os):=by
 have hs:(putRow id (ahead w n) g 0 A).heap.size=w.heap.size:=by
  simp
 refine ⟨rfl,rfl,rfl,?_,fun k hk hn=>?_,fun _=>Nat.le_add_right _ _⟩
 ·simp
 ·show ((putRow id (ahead w n) g 0 A).heap++os)[k]?=_
  rw[Array.getElem?_append_left (by omega),qlu (by grind)]
  rfl
theorem Keeps.grown [D1:DM](hD:D1.on=true){w w':World}(h:Keeps [] w w'):∃ q os,w'=grow (w.drewN q) os:=by
 refine ⟨w'.drawn-w.drawn,w'.heap.extract w.heap.size w'.heap.size,?_⟩
 have h1:=h.os
 have h2:=h.tape
 have h3:=h.output
 have h4:=h.drawn hD
 have h5:=h.size
 have hh:w'.heap=w.heap++w'.heap.extract w.heap.size w'.heap.size:=by
  apply Array.ext_getElem?
  intro i
  by_cases hi:i<w.heap.size
  ·rw[Array.getElem?_append_left hi];exact h.block i hi (by simp)
  grind
 cases w;cases w'
 simp only[grow,World.drewN] at *
 subst h1 h2 h3
 simp only[World.mk.injEq,true_and,and_true]
 grind
def CmpOk {α:Type}(c:α→α→Option Int)(xs:List α):Prop :=
 (∀ a∈xs,∀ b∈xs,∃ z,c a b=some z)∧SWO (ltOf fun (a b:{x // x∈xs})=>(c a.1 b.1).getD 0) ∧
  (∀ a∈xs,∀ b∈xs,ltOf (fun a b=>(c a b).getD 0) a b=false→ltOf (fun a b=>(c a b).getD 0) b a=false→a=b)
def ltO {α:Type}(c:α→α→Option Int)(a b:α):Bool:=decide ((c a b).getD 0<0)
def cmpOkB {α:Type}[DecidableEq α](c:α→α→Option Int)(xs:List α):Bool :=
 xs.all fun a=>!ltO c a a && xs.all fun b=>(c a b).isSome && (ltO c a b || ltO c b a || decide (a=b)) && xs.all fun d=>(!(ltO c a b && ltO c b d) || ltO c a d) && (ltO c a b || ltO c b d || !ltO c a d)
variable {α:Type}{xs:List α}
theorem qtn [DecidableEq α]{c:α→α→Option Int}:cmpOkB c xs=true↔CmpOk c xs:=by
 unfold cmpOkB CmpOk
 simp only[qBX,Bool.and_eq_true,qCL,qCK,decide_eq_true_eq,Option.isSome_iff_exists]
 constructor
 ·intro h
  refine ⟨fun a ha b hb=>((h a ha).2 b hb).1.1,⟨fun x=>(h x.1 x.2).1,fun x y z h1 h2=>?_,fun x y z h1 h2=>?_⟩,fun a ha b hb h1 h2=>?_⟩
  ·rcases (((h x.1 x.2).2 y.1 y.2).2 z.1 z.2).1 with h3 | h3
   ·have e1:ltO c x.1 y.1=true:=h1
    have e2:ltO c y.1 z.1=true:=h2
    simp_all
   ·exact h3
  ·rcases (((h x.1 x.2).2 y.1 y.2).2 z.1 z.2).2 with (h3 | h3) | h3
   ·have e1:ltO c x.1 y.1=false:=h1
    simp_all
   ·have e1:ltO c y.1 z.1=false:=h2
    simp_all
   ·exact h3
  ·rcases ((h a ha).2 b hb).1.2 with (h3 | h3) | h3
   ·have e1:ltO c a b=false:=h1
    simp_all
   ·have e1:ltO c b a=false:=h2
    simp_all
   omega
 ·rintro ⟨h1,h2,h3⟩ a ha
  refine ⟨h2.irrefl ⟨a,ha⟩,fun b hb=>⟨⟨h1 a ha b hb,?_⟩,fun d hd=>⟨?_,?_⟩⟩⟩
  ·by_cases e1:ltO c a b=true
   ·simp_all
   ·by_cases e2:ltO c b a=true
    ·simp_all
    ·exact .inr (h3 a ha b hb (qDh.2 e1) (qDh.2 e2))
  ·by_cases e1:ltO c a b=true
   ·by_cases e2:ltO c b d=true
    ·exact .inr (h2.trans ⟨a,ha⟩ ⟨b,hb⟩ ⟨d,hd⟩ e1 e2)
    simp_all
   simp_all
  ·by_cases e1:ltO c a b=true
   ·simp_all
   ·by_cases e2:ltO c b d=true
    ·simp_all
    ·exact .inr (h2.ntrans ⟨a,ha⟩ ⟨b,hb⟩ ⟨d,hd⟩ (qDh.2 e1) (qDh.2 e2))
def qjg {α:Type}(c:α→α→Option Int)(xs:List α):List α:=isF (ltO c) xs
def sortF {α:Type}[DecidableEq α](c:α→α→Option Int)(xs:List α):Option (List α) :=
 if cmpOkB c xs=true∧xs.length<4611686018427387904 then some (qjg c xs) else none
theorem qgS (c:α→α→Option Int)(xs:List α):(qjg c xs).Perm xs:=qhm _ xs
theorem qpS (c:α→α→Option Int)(xs:List α):(qjg c xs).length=xs.length:=(qgS c xs).length_eq
theorem qrg {c:α→α→Option Int}(h:CmpOk c xs):(qjg c xs).Pairwise fun a b=>ltO c b a=false :=
 qqR (S:=fun z=>z∈xs) (fun a b d ha hb hd h1 h2=>h.2.1.ntrans ⟨d,hd⟩ ⟨b,hb⟩ ⟨a,ha⟩ h2 h1)
  (fun a b ha hb h1=>by
   cases h2:ltO c b a
   ·rfl
   ·have:=h.2.1.trans ⟨a,ha⟩ ⟨b,hb⟩ ⟨a,ha⟩ h1 h2
    rw[h.2.1.irrefl] at this;grind) xs fun _ hz=>hz
theorem qrh {c:α→α→Option Int}(h:CmpOk c xs):((xs.attach).mergeSort fun x y=>!(ltOf fun (a b:{x // x∈xs})=>(c a.1 b.1).getD 0) y x).map (·.1)=qjg c xs:=by
 have hp:(((xs.attach).mergeSort fun x y=>!(ltOf fun (a b:{x // x∈xs})=>(c a.1 b.1).getD 0) y x).map (·.1)).Perm xs:=by
  have h:=(List.mergeSort_perm xs.attach fun x y=>!(ltOf fun (a b:{x // x∈xs})=>(c a.1 b.1).getD 0) y x).map (·.1)
  simp_all
 have hS:=h.2.1
 have hw:(((xs.attach).mergeSort fun x y=>!(ltOf fun (a b:{x // x∈xs})=>(c a.1 b.1).getD 0) y x).map (·.1)).Pairwise fun a b=>ltO c b a=false:=by
  rw[List.pairwise_map]
  have:=List.pairwise_mergeSort (le:=fun x y=>!(ltOf fun (a b:{x // x∈xs})=>(c a.1 b.1).getD 0) y x)
   (fun a b d h1 h2=>by
    simp only[qCL] at *
    exact hS.ntrans d b a h2 h1)
   (fun a b=>by
    simp only[qCK,qCL]
    by_cases hb:(ltOf fun (a b:{x // x∈xs})=>(c a.1 b.1).getD 0) b a=true
    ·right
     by_cases ha:(ltOf fun (a b:{x // x∈xs})=>(c a.1 b.1).getD 0) a b=true
     ·have:=hS.trans a b a ha hb;rw[hS.irrefl] at this;simp_all
     simp_all
    simp_all) xs.attach
  grind [ltOf,ltO]
 exact List.Perm.eq_of_pairwise (le:=fun a b=>ltO c b a=false) (fun a b ha hb h1 h2=>(h.2.2 a (hp.mem_iff.1 ha) b ((qgS c xs).mem_iff.1 hb) h2 h1)) hw (qrg h) (hp.trans (qgS c xs).symm)
variable {P:Program}
theorem Pure.toM {f:FuncId}{vs:List Value}{Φ:List (World→Prop)}{γ:Type}{V:γ→Value}{RW:γ→List RowD}(h:Pure P f vs Φ γ V RW (fun _=>[])):PureM P f vs [] [] Φ γ V (fun _=>[]) RW:=by
 intro w hp
 refine (h w hp).mono fun e w' ⟨g,h1,h2⟩=>⟨g,h1,?_⟩
 exact { keep:=h2.keep,blk:=by simp,rows:=h2.rows,nodup:=h2.nodup,fresh:=fun k hk=>.inr (h2.fresh k hk),per:=by simp }
theorem toM1 {f:FuncId}{vs:List Value}{Φ:List (World→Prop)}{γ:Type}{V:γ→Value}{RW:γ→List RowD}(h:@Pure dm1 P f vs Φ γ V RW (fun _=>[])):@PureM dm1 P f vs [] [] Φ γ V (fun _=>[]) RW :=
 @Pure.toM dm1 _ _ _ _ _ _ _ h
theorem qmF [Inhabited α]{enc:α→List Value}{k:Nat}(henc:EncOk enc k)(xs:List α):(flatK enc k xs.toArray).toList=xs.flatMap enc:=by
 have hl:(xs.flatMap enc).length=xs.length*k:=qQ henc xs
 apply qBU
 intro t
 by_cases ht:t<xs.length*k
 ·have hk0:0<k:=by
   grind
  have hq:t/k<xs.length:=Nat.div_lt_of_lt_mul (by grind)
  have hr:t%k<k:=qC1 _ hk0
  have e:t/k*k+t%k=t:=by grind [qDa]
  have hr':t%k<(enc xs[t/k]).length:=by rw[henc.len];omega
  have h1:=yX henc xs (t/k) xs[t/k] (t%k) _ (qBk hq) (qBk hr')
  rw[e] at h1
  rw[h1,Array.getElem?_toList]
  have h2:=get_flatK enc k xs.toArray t (by omega)
  simp_all
 simp_all
theorem keepsC {BC:List BlkD}{W w':World}{F:List (World→Prop)}(h1:∀ b∈BC,b.is W)(h:Hp (muts BC []) W w' BC [] F):Keeps [] W w':=by
 refine ⟨h.keep.os,h.keep.tape,h.keep.output,h.keep.size,fun k hk _=>?_,h.keep.drawn⟩
 by_cases hm:k∈muts BC []
 ·simp only[muts,qDK,qBV] at hm
  obtain ⟨b,hb,rfl⟩:=qBK.1 hm
  rw[show w'.heap[b.g]?=some b.obj from h.blk b hb,show W.heap[b.g]?=some b.obj from h1 b hb]
 ·exact h.keep.block k hk hm
theorem necUp {w:World}{M:List Nat}{φ:World→Prop}(h:Nec w M φ):@Nec dm1 w M φ :=
 fun w' hk=>h w' (by cases hk with | mk a b c d e f=>exact ⟨a,b,c,d,e,fun _=>f rfl⟩)
theorem qpT [DecidableEq α]{enc:α→List Value}{f g:FuncId}{k:Nat}{e:TypeId}{a:Option Addr}{c:Nat}{r:List α}{cb:List Value}{BC:List BlkD}{Φ:List (World→Prop)}{arg:List Value→Value}{cmp:α→α→Option Int}(henc:EncOk enc k)(_hk0:k≠0)(hs:qnz P f g k arg cb.toArray)(hn:∀ (p:Option Addr) (cap:Nat) (w:World),Calls P f #[.slice p 0 cap,.func (.func g) #[] cb.toArray] w fun e w'=>e=.returned (.tuple #[])∧w'=w)(hC:∀ x y z,cmp x y=some z→@PureM dm1 P g ([arg (enc x),arg (enc y)]++cb) BC [] Φ Unit (fun _=>.int .i64 z) (fun _=>BC) (fun _=>[]))(hr:sortF cmp xs=some r) :
  PureM P f [.slice a xs.length c,.func (.func g) #[] cb.toArray] BC [Ro enc e k (.slice a xs.length c) xs] Φ Unit (fun _=>.tuple #[]) (fun _=>BC) (fun _=>[Ro enc e k (.slice a r.length c) r]):=by
 intro w hp
 unfold sortF at hr
 split at hr
 ·rename_i hok
  obtain ⟨hok,hlen⟩:=hok
  replace hok:=qtn.1 hok
  simp only[qBs] at hr
  have hrl:r.length=xs.length:=by rw[← hr,qpS]
  have hown:=hp.row _ (qBD.2 rfl)
  have hp0:Hp (muts BC [Ro enc e k (.slice a xs.length c) xs]) w w BC [Ro enc e k (.slice a xs.length c) xs] []:=hp.weaken (qBL _) (qBL _) (fun φ h=>by grind)
  have hnil:xs=[]→Calls P f #[.slice a xs.length c,.func (.func g) #[] cb.toArray] w fun e' w'=>∃ _:Unit,e'=.returned (.tuple #[])∧Hp (muts BC [Ro enc e k (.slice a xs.length c) xs]) w w' BC [Ro enc e k (.slice a r.length c) r] []:=by
   intro hx
   subst hx
   have hr0:r=[]:=List.length_eq_zero_iff.1 (by omega)
   subst hr0
   exact (hn a c w).mono (fun e' w' ⟨h1,h2⟩=>⟨(),h1,by simp_all⟩)
  by_cases hx:xs=[]
  ·simp_all
  rcases hown.2 with ⟨h5,h6⟩ | ⟨g0,cap,cur,h5,_,hgg,hnc,hcm,hcs,htake⟩
  ·have h6':xs.length=0:=h6
   simp_all
  ·have h5':Value.slice a xs.length c=.slice (some ⟨g0,0,none⟩) xs.length cap:=h5
   simp only[Value.slice.injEq,true_and] at h5'
   obtain ⟨rfl,rfl⟩:=h5'
   have hgg':w.heap[g0]?=some (.cells cur e (0,0)):=hgg
   have htake':cur.toList.take (xs.length*k)=xs.flatMap enc:=htake
   have hcs':cur.size=c*k:=hcs
   have hnc':xs.length≤c:=hnc
   have hmul:xs.length*k≤c*k:=qBN _ hnc'
   have hlt:=(Array.getElem?_eq_some_iff.1 hgg').1
   obtain ⟨x0,hx0⟩:=List.exists_mem_of_ne_nil xs hx
   haveI:Inhabited {x // x∈xs}:=⟨⟨x0,hx0⟩⟩
   have henc':EncOk (fun x:{x // x∈xs}=>enc x.1) k:=⟨fun x=>henc.len x.1,fun x=>henc.ok x.1⟩
   have hfa:xs.attach.flatMap (fun x:{x // x∈xs}=>enc x.1)=xs.flatMap enc:=by
    simp
   have hd:xs.attach.toArray.size=xs.length:=by simp
   have hdis:∀ b∈BC,b.g≠g0:=by
    intro b hb he
    have hnd:=hp.nodup
    unfold muts at hnd
    rw[List.nodup_append] at hnd
    refine hnd.2.2 b.g (qBK.2 ⟨b,hb,rfl⟩) g0 ?_ he
    rw[qBG,qDK,qBV]
    exact RowD.blocks_v rfl
   have hmain:=hs {x // x∈xs} (fun x=>enc x.1) henc'.len (fun x v hv=>by have:=henc.ok x.1;exact qBX.1 this v hv) (fun a b=>(cmp a.1 b.1).getD 0) hok.2.1 (fun x y h1 h2=>Subtype.ext (hok.2.2 x.1 x.2 y.1 y.2 h1 h2)) g0 c xs.attach.toArray w
    (fun W hW x y=>by
     obtain ⟨m,os,A,hA,hW⟩:=hW
     obtain ⟨z,hz⟩:=hok.1 x.1 x.2 y.1 y.2
     have hkW:Keeps [g0] w W:=by rw[hW];exact qht
     have hpW:@Hp dm1 (muts BC []) W W BC [] Φ:=by
      refine @Hp.mk dm1 _ _ _ _ _ _ (@Keeps.refl dm1 _ _) (fun b hb=>qbI (hp.blk b hb) hkW (by simp_all)) (by simp) ?_ (fun _ hg=>.inl hg) (fun φ hφ=>?_)
      ·exact hp.nodup.sublist (by grind [muts])
      ·refine necUp ((hp.per φ hφ).step (hkW.wider ?_) fun q hq=>.inl ?_)
       ·intro q hq
        simp only[qBD] at hq
        subst hq
        refine qBn.2 (.inr ?_)
        rw[qBG,qDK,qBV]
        exact RowD.blocks_v rfl
       grind [muts]
     have hcall:=hC x.1 y.1 z hz W hpW
     have e1:([arg (enc x.1),arg (enc y.1)]++cb).toArray=#[arg (enc x.1),arg (enc y.1)]++cb.toArray:=by simp
     rw[e1] at hcall
     refine hcall.mono fun e' w' ⟨_,h1,h2⟩=>⟨by simp_all,?_⟩
     exact @Keeps.grown _ dm1 rfl _ _ (@keepsC dm1 _ _ _ _ (@Hp.blk dm1 _ _ _ _ _ _ hpW) h2))
    (fun j hj=>by
     have hj':j<xs.length*k:=by simpa using hj
     have h1:(flatK (fun x:{x // x∈xs}=>enc x.1) k xs.attach.toArray).toList=cur.toList.take (xs.length*k):=by grind [qmF]
     have h2:cur[j]?=some ((flatK (fun x:{x // x∈xs}=>enc x.1) k xs.attach.toArray)[j]!):=by
      have h3:=congrArg (fun l=>l[j]?) h1
      grind
     refine ⟨?_,?_⟩
     ·rw[qB9]
      grind [World.cell?]
     grind [World.frozen?])
    hlt (by omega)
   rw[hd] at hmain
   refine hmain.mono fun e' w' ⟨h1,q,os,h2⟩=>⟨(),h1,?_⟩
   subst h2
   have hflat:(flatK (fun x:{x // x∈xs}=>enc x.1) k (xs.attach.toArray.toList.mergeSort fun x y=>!(ltOf fun (a b:{x // x∈xs})=>(cmp a.1 b.1).getD 0) y x).toArray).toList=r.flatMap enc:=by
    rw[qmF henc',← hr,← qrh hok]
    simp
   generalize hA:flatK (fun x:{x // x∈xs}=>enc x.1) k (xs.attach.toArray.toList.mergeSort fun x y=>!(ltOf fun (a b:{x // x∈xs})=>(cmp a.1 b.1).getD 0) y x).toArray=A at hflat
   have hAs:A.size=xs.length*k:=by
    have:=congrArg List.length hflat
    grind [qQ]
   refine hp0.swapRow (i:=0) rfl ?_ (.inl ⟨rfl,qht⟩)
   have hz:((putRow id (ahead w q) g0 0 A).heap++os)[g0]?=some (.cells (putCells id 0 A cur) e (0,0)):=by
    have h3:=qpF (w:=ahead w q) (A:=A) hgg'
    grind
   refine ⟨qQ henc r,.inr ⟨g0,c,_,rfl,qBH _,hz,?_,hcm,?_,?_⟩⟩
   ·show r.length≤c;omega
   ·show _=c*k;simp[putCells,hcs']
   ·show (putCells id 0 A cur).toList.take (r.length*k)=r.flatMap enc
    grind [qpE]
 simp_all
end SX
namespace SX
open Go Go.ChangeShapes Go.WideShapes Go.ChangeAt Go.RowKit Go.Joins Go.Deep
set_option linter.unusedSectionVars false
variable [DM]
variable {H:Type}{enc:TypeId×Value→H}{P:Program}
theorem qti {W:World}{base:Nat}{t:TypeId}{ts:List TypeId}{fs:Array Field}{cs:Array Value}(hs:P.underlying t=some (.struct fs))(hts:P.cellTypes P.depth t=some ts)(hv:Value.okWide P W .any base t (.agg cs)) :
  ∀ i v u,i<ts.length→cs[i]?=some v→ts[i]?=some u→Cell.okWide P W .any base u v:=by
 unfold Value.okWide at hv
 rw[hs] at hv
 obtain ⟨cs',he,_,ts',h1,_,h2⟩:=hv
 grind [qB8]
end SX
namespace SX
open Go Go.ChangeShapes Go.WideShapes Go.ChangeAt Go.RowKit Go.Joins Go.Deep
set_option linter.unusedSectionVars false
variable [DM]
variable {H:Type}{enc:TypeId×Value→H}{P:Program}
theorem qdG {w:World}{base:Nat}{spare:Nat→Bool}{held:Bool}{t:TypeId}{fs:Array Field}{fuel:Nat}{cs cs':List Value}{x:DataW H×List MemPlace}{i k:Nat}{f:Field}(ht:P.underlying t=some (.struct fs))(hi:fs[i]?=some f)(hk:P.cellsOf f.type=k)(hc:(cs.drop f.offset).take k=cs')(h:DataW.trod enc P w base spare held fuel t cs=some x) :
  ∃ n y,DataW.trod enc P w base spare held n f.type cs'=some y:=by
 obtain ⟨xs,n,_,rfl,hl,hlen,hf⟩:=DataW.trod_struct ht h
 grind
theorem qli {W:World}{base n:Nat}{t:TypeId}{k:IntKind}{v:Value}{y:DataW H×List MemPlace}(h0:P.underlying t=some (.int k))(hc:Cell.okWide P W .any base t v)(h:DataW.trod enc P W 0 (fun _=>true) true n t [v]=some y) :
  ∃ x,v=.int k x∧(Lit.int k x).wf=true:=by
 have o0:Value.okWide P W .any base t v:=by grind [Value.okWide]
 have vc:v.cells=#[v]:=by
  obtain ⟨x,rfl⟩:=okWide_int h0 o0
  rfl
 obtain ⟨x,rfl,_,_,wx⟩:=open_int h0 o0 (d:=y.1) (ps:=y.2) ⟨n,by rw[vc];exact h⟩
 simp_all
theorem arr4 {α:Type}{cs:Array α}(h:cs.size=4):∃ c0 c1 c2 c3,cs=#[c0,c1,c2,c3]:=by
 obtain ⟨l⟩:=cs
 match l,h with
 | [c0,c1,c2,c3],_=>simp
end SX
namespace SX
open Go Go.ChangeShapes Go.WideShapes Go.ChangeAt Go.RowKit Go.Joins Go.Deep
set_option linter.unusedSectionVars false
variable [DM]
theorem qj9 {α:Type}{enc:α→List Value}{size:Nat}(h:EncOk enc size)(h0:0<size):∀ (xs:List α) (j:Nat) (u:Value),(xs.flatMap enc)[j]?=some u→∃ x,xs[j/size]?=some x∧(enc x)[j%size]?=some u
 | [],j,u,hj=>by simp at hj
 | x::xs,j,u,hj=>by
  rw[qBG] at hj
  by_cases hlt:j<size
  ·rw[List.getElem?_append_left (by rw[h.len];exact hlt)] at hj
   exact ⟨x,by rw[Nat.div_eq_of_lt hlt];rfl,by rw[qB8 hlt];exact hj⟩
  ·rw[qCs (by rw[h.len];omega),h.len] at hj
   obtain ⟨y,h1,h2⟩:=qj9 h h0 xs (j-size) u hj
   have e1:j/size=(j-size)/size+1:=by
    rw[← Nat.add_div_right _ h0];congr 1;omega
   have e2:j%size=(j-size)%size:=Nat.mod_eq_sub_mod (by omega)
   exact ⟨y,by rw[e1,List.getElem?_cons_succ];exact h1,by rw[e2];exact h2⟩
variable {H:Type}{enc:TypeId×Value→H}{P:Program}
theorem qtj {α:Type}{enc':α→List Value}{good:α→Prop}{size:Nat}(henc:EncOk enc' size)(h0:0<size){W:World}{base:Nat}{t e:TypeId}{v:Value}{d:DataW H}{p:List MemPlace}(ht:P.underlying t=some (.slice e))(hc:P.cellsOf e=size)(hopen:∀ n cs y,DataW.trod enc P W 0 (fun _=>true) true n e cs=some y→cs.length=size→∃ x:α,cs=enc' x∧good x)(hval:Value.okWide P W .any base t v)(h:DataW.Trod enc P W 0 (fun _=>true) true t v d p) :
  ∃ (a:Option Addr) (cap:Nat) (xs:List α),v=.slice a xs.length cap∧Nec W [] (Sl enc' size v xs)∧(∀ x∈xs,good x)∧xs.length≤maxLen:=by
 obtain ⟨a0,len0,cap0,rfl⟩:=okWide_slice ht hval
 obtain ⟨fuel,hf⟩:=h
 rcases open_slice ht hf with ⟨hcs,_⟩ | ⟨a,len,cap,m,n,D,Pl,hcs,_,hle,hmax,hmm,_,hx⟩
 ·simp[Value.cells] at hcs
  obtain ⟨rfl,rfl,rfl⟩:=hcs
  refine ⟨none,0,[],rfl,qgp ⟨⟨none,0,rfl,qBw _,by simp,by simp,fun j u hj=>by simp at hj⟩,by simp⟩ (by simp),by simp,by simp⟩
 ·simp[Value.cells] at hcs
  obtain ⟨rfl,rfl,rfl⟩:=hcs
  simp only[if_true] at hmm
  subst hmm
  have hspot:a.spot=none:=by
   have hv:Cell.okWide P W .any base t (.slice (some a) len0 m):=by
    unfold Value.okWide at hval
    rw[ht] at hval
    exact hval
   unfold Cell.okWide Cell.ok at hv
   rw[ht] at hv
   simp only at hv
   exact hv.2.2.2.1
  have each:∀ i,i<m→∃ x:α,W.cells? 0 (a.add (i*size)) size=some (enc' x)∧good x:=by
   intro i hi
   obtain ⟨cs',h1,h2⟩:=hx i hi
   rw[hc] at h1
   obtain ⟨x,rfl,hg⟩:=hopen n cs' _ h2 (World.cells?_some h1).2.1
   exact ⟨x,h1,hg⟩
  by_cases hm0:m=0
  ·subst hm0
   have hl0:len0=0:=by omega
   subst hl0
   refine ⟨some a,0,[],rfl,qgp ⟨⟨some a,0,rfl,qBw _,by simp,fun ad e=>by cases e;exact .inr hspot,fun j u hj=>by simp at hj⟩,by simp⟩ (fun ad l c e hne=>absurd rfl hne),by simp,by simp⟩
  ·obtain ⟨x0,_⟩:=each 0 (by omega)
   haveI:Inhabited α:=⟨x0⟩
   obtain ⟨X,hX⟩:=choose_lt each
   have hL:((qBx len0).map X).length=len0:=by simp
   have hcell:∀ j u,(((qBx len0).map X).flatMap enc')[j]?=some u→W.cell? ⟨a.block,a.off+j,none⟩=some u:=by
    intro j u hj
    obtain ⟨x,h1,h2⟩:=qj9 henc h0 _ j u hj
    rw[qCp] at h1
    cases hr:(qBx len0)[j/size]? with
    | none=>rw[hr] at h1;simp at h1
    | some i =>
     rw[hr] at h1
     simp only[qCj,qBs] at h1
     subst h1
     have hi:=(qBC.1 hr)
     obtain ⟨hi1,hi2⟩:=hi
     simp only[List.length_range] at hi1
     simp only[List.getElem_range] at hi2
     subst hi2
     obtain ⟨_,_,hcl⟩:=World.cells?_some (hX (j/size) (by omega)).1
     have hmod:j%size<size:=qC1 _ h0
     have:=hcl (j%size) hmod
     rw[h2] at this
     rw[qdx _ _ hspot,qb7] at this
     rw[← this]
     congr 2
     rw[Nat.add_assoc,Nat.div_add_mod' j size]
   refine ⟨some a,m,(qBx len0).map X,by rw[hL],?_,?_,by rw[hL];omega⟩
   ·refine qgp ⟨⟨some a,m,by rw[hL],by rw[hL];exact hle,hmax,fun ad e=>by cases e;exact .inr hspot,fun j u hj=>⟨a,rfl,hcell j u hj⟩⟩,qQ henc _⟩ fun ad l c e hne=>?_
    cases e
    have hpos:0<(((qBx len0).map X).flatMap enc').length:=qDs.2 hne
    have:=hcell 0 _ (qBk hpos)
    unfold World.cell? at this
    cases hh:W.heap[a.block]? with
    | none=>simp only[hh] at this;simp at this
    | some o=>exact (Array.getElem?_eq_some_iff.1 hh).1
   ·intro x hx'
    obtain ⟨i,hi,rfl⟩:=qBK.1 hx'
    exact (hX i (by have:=List.mem_range.1 hi;omega)).2
end SX
namespace SX
open Go Go.ChangeShapes Go.WideShapes Go.ChangeAt Go.RowKit Go.Joins Go.Deep
set_option linter.unusedSectionVars false
variable [DM]
variable {H:Type}{enc:TypeId×Value→H}{P:Program}
theorem qqX {W:World}{base n:Nat}{t e e2:TypeId}{k:IntKind}{v:Value}{y:DataW H×List MemPlace}{en:List Int×(Option Addr×Nat)→List Value}{inn:List Int×(Option Addr×Nat)→List (World→Prop)}(henc:EncOk en 1)(hen:∀ p,en p=[.slice p.2.1 p.1.length p.2.2])(hin:∀ p,inn p=[Sl (eI k) 1 (.slice p.2.1 p.1.length p.2.2) p.1])(ht:P.underlying t=some (.slice e))(he:P.underlying e=some (.slice e2))(he2:P.underlying e2=some (.int k))(hc1:P.cellsOf e=1)(hc2:P.cellsOf e2=1)(hc:Cell.okWide P W .any base t v)(h:DataW.trod enc P W 0 (fun _=>true) true n t [v]=some y) :
  ∃ (a:Option Addr) (cap:Nat) (xs:List (List Int)) (gs:List (Option Addr×Nat)),v=.slice a xs.length cap∧Nec W [] (SlN en inn 1 (.slice a xs.length cap) xs gs)∧(∀ l∈xs,(∀ n∈l,(Lit.int k n).wf=true)∧l.length≤maxLen)∧xs.length≤maxLen:=by
 have o1:Value.okWide P W .any base t v:=by unfold Value.okWide;rw[ht];exact hc
 have vc:v.cells=#[v]:=by
  obtain ⟨a,l,c,rfl⟩:=okWide_slice ht o1
  rfl
 have hopen:∀ n cs y,DataW.trod enc P W 0 (fun _=>true) true n e cs=some y→cs.length=1→∃ x:List Int×(Option Addr×Nat),cs=en x∧(Nec W [] (Sl (eI k) 1 (.slice x.2.1 x.1.length x.2.2) x.1)∧(∀ n∈x.1,(Lit.int k n).wf=true)∧x.1.length≤maxLen):=by
  intro n cs y hy hl
  match cs,hl with
  | [c0],_ =>
   rcases open_ints he he2 hc2 hy with ⟨hcs,_⟩ | ⟨a,len,cap,zs,hcs,_,hle,hmax,hlen,_,hcell,hwf⟩
   ·simp only[qDO,and_true] at hcs
    subst hcs
    exact ⟨([],(none,0)),by rw[hen];rfl,qgp ⟨⟨none,0,rfl,qBw _,by simp,by simp,fun j u hj=>by simp at hj⟩,by simp⟩ (by simp),by simp,by simp⟩
   ·simp only[qDO,and_true] at hcs
    subst hcs
    simp only[if_true] at hlen
    have hL:(zs.take len).length=len:=by rw[qB7];omega
    have hfm:∀ (l:List Int),l.flatMap (eI k)=l.map (fun x=>Value.int k x):=by
     intro l
     induction l with
     | nil=>rfl
     | cons x l ih=>simp[eI,ih]
    have hspot:zs≠[]→a.spot=none:=by
     intro hne
     obtain ⟨z,zs',rfl⟩:=List.exists_cons_of_ne_nil hne
     have:=hcell 0 (by simp)
     unfold World.cell? at this
     have e0:(a.add 0).spot=a.spot:=by simp[Addr.add]
     cases hh:W.heap[(a.add 0).block]? with
     | none=>rw[hh] at this;simp at this
     | some o =>
      rw[hh] at this
      cases o with
      | cells c _ _ =>
       simp only[e0] at this
       cases hs:a.spot with
       | none=>rfl
       | some q=>rw[hs] at this;simp at this
      | _=>simp at this
    have hj0:∀ j u,((zs.take len).flatMap (eI k))[j]?=some u→W.cell? ⟨a.block,a.off+j,none⟩=some u:=by
     intro j u hj
     rw[hfm,qCp] at hj
     cases hz:(zs.take len)[j]? with
     | none=>rw[hz] at hj;simp at hj
     | some x =>
      rw[hz] at hj
      simp only[qCj,qBs] at hj
      subst hj
      have hj1:=(qBC.1 hz).1
      have hj2:j<zs.length:=by rw[qB7] at hj1;omega
      have hne:zs≠[]:=by rintro rfl;simp at hj2
      have:=hcell j hj2
      have hx:zs.getD j 0=x:=by
       rw[List.getElem?_take_of_lt (by rw[qB7] at hj1;omega)] at hz
       simp[List.getD,hz]
      rw[hx,qdx _ _ (hspot hne)] at this
      exact this
    refine ⟨(zs.take len,(some a,cap)),by rw[hen,hL],?_,fun n hn=>hwf n (qC2 hn),by show (zs.take len).length≤_;rw[hL];omega⟩
    refine qgp ⟨⟨some a,cap,rfl,by show (zs.take len).length≤cap;rw[hL];exact hle,hmax,fun ad e=>?_,fun j u hj=>⟨a,rfl,hj0 j u hj⟩⟩,by rw[hfm];simp⟩ fun ad l c e hne=>?_
    ·cases e
     by_cases hz:(zs.take len).flatMap (eI k)=[]
     ·exact .inl hz
     ·exact .inr (hspot (by rintro rfl;simp at hz))
    ·cases e
     have hpos:=qDs.2 hne
     have:=hj0 0 _ (qBk hpos)
     unfold World.cell? at this
     cases hh:W.heap[a.block]? with
     | none=>simp only[hh] at this;simp at this
     | some o=>exact (Array.getElem?_eq_some_iff.1 hh).1
 obtain ⟨a,cap,ps,hv,hs,hg,hm⟩:=qtj (good:=fun x:List Int×(Option Addr×Nat)=>Nec W [] (Sl (eI k) 1 (.slice x.2.1 x.1.length x.2.2) x.1)∧(∀ n∈x.1,(Lit.int k n).wf=true)∧x.1.length≤maxLen) henc (by decide) ht hc1 hopen o1 (d:=y.1) (p:=y.2) ⟨n,by rw[vc];exact h⟩
 have hz:(ps.map (·.1)).zip (ps.map (·.2))=ps:=by
  have:∀ ps:List (List Int×(Option Addr×Nat)),(ps.map (·.1)).zip (ps.map (·.2))=ps:=by
   intro ps
   induction ps with
   | nil=>rfl
   | cons p ps ih=>rw[List.map_cons,List.map_cons,List.zip_cons_cons,ih]
  exact this ps
 refine ⟨a,cap,ps.map (·.1),ps.map (·.2),by rw[qBJ];exact hv,fun w' hk=>⟨by simp,?_,fun p hp φ hφ=>?_⟩,fun l hl=>?_,by rw[qBJ];exact hm⟩
 ·rw[hz,qBJ,← hv]
  exact hs w' hk
 ·rw[hz] at hp
  rw[hin] at hφ
  simp only[qBD] at hφ
  subst hφ
  exact (hg p hp).1 w' hk
 ·obtain ⟨p,hp,rfl⟩:=qBK.1 hl
  exact (hg p hp).2
end SX
namespace SX
open Go Go.ChangeShapes Go.WideShapes Go.ChangeAt Go.RowKit Go.Joins Go.Deep
set_option linter.unusedSectionVars false
variable [DM]
variable {H:Type}{enc:TypeId×Value→H}{P:Program}
theorem yb {n:Int}(h1:-9223372036854775808≤n)(h2:n<9223372036854775808):IntKind.wrap .i64 n=n:=by
 unfold IntKind.wrap
 simp only[IntKind.bits,IntKind.signed]
 simp only[show (2^64:Int)=18446744073709551616 from by decide,show (2^(64-1):Int)=9223372036854775808 from by decide]
 split
 ·rename_i h;simp at h;omega
 ·rename_i h;simp at h;omega
theorem jB {n:Int}(h1:0≤n)(h2:n<18446744073709551616):IntKind.wrap .u64 n=n:=by
 unfold IntKind.wrap
 simp only[IntKind.bits,IntKind.signed]
 simp only[show (2^64:Int)=18446744073709551616 from by decide,qCO,qBy,if_false]
 omega
theorem qta {n:Int}(h1:0≤n)(h2:n<256):IntKind.wrap .u8 n=n:=by
 unfold IntKind.wrap
 simp only[IntKind.bits,IntKind.signed]
 simp only[show (2^8:Int)=256 from by decide,qCO,qBy,if_false]
 omega
theorem qjs (n:Int):IntKind.wrap .u64 n=n%18446744073709551616:=by
 unfold IntKind.wrap
 simp only[IntKind.bits,IntKind.signed]
 simp only[show (2^64:Int)=18446744073709551616 from by decide,qCO,qBy,if_false]
theorem qqg (n:Int):IntKind.wrap .u8 n=n%256:=by
 unfold IntKind.wrap
 simp only[IntKind.bits,IntKind.signed]
 simp only[show (2^8:Int)=256 from by decide,qCO,qBy,if_false]
variable {parts:Array (Nat×Operand)}{done:Array Bool}{agg:Bool}{I0:Env}{fn:Func}{f:FuncId}{a:Int}{k:IntKind}{F0 Φ:List (World→Prop)}{B0:List BlkD}{R0:List RowD}{vs:List Value}{bytes fuel:Nat}{A:Prop}{S α:Type}{t':TypeId}{a0 a1 z:Value}{w:World}{R':List α}
theorem zb {b:Int}(h1:-9223372036854775808≤a+b)(h2:a+b<9223372036854775808):iadd .i64 a b=a+b:=yb h1 h2
theorem zN {b:Int}(h1:-9223372036854775808≤a-b)(h2:a-b<9223372036854775808):isub .i64 a b=a-b:=yb h1 h2
theorem qo (xs:List α)(i:Nat):idx xs (i:Int)=xs[i]?:=by simp[idx]
theorem kG {lim:Nat}{xs ys:List α}(h:xs.length+ys.length≤lim):app lim xs ys=some (xs++ys):=by simp[app,h]
theorem qeP {x:Int}(h:(Lit.int .i64 x).wf=true):-9223372036854775808≤x∧x<9223372036854775808:=by
 simp[Lit.wf,IntKind.min,IntKind.max,IntKind.signed,IntKind.bits] at h
 exact ⟨by omega,by omega⟩
theorem qhA {m:Nat}(ha:0≤a)(ha2:a<2^k.bits)(hm:m≤k.bits)(hs:k.signed=false):iand k a (2^m-1:Nat)=a%2^m:=by
 unfold iand
 obtain ⟨n,rfl⟩:=qBm ha
 have hn:n<2^k.bits:=by exact_mod_cast ha2
 have h1:(qBS k.bits (n:Int))=qBI k.bits n:=by simp
 have h2:(qBS k.bits ((2^m-1:Nat):Int))=qBI k.bits (2^m-1):=by simp
 rw[h1,h2,BitVec.toNat_and,qCI,qCI,qB8 hn]
 have h3:2^m≤2^k.bits:=Nat.pow_le_pow_right (by decide) hm
 have h0:0<2^m:=Nat.pow_pos (by decide)
 rw[qB8 (by omega),Nat.and_two_pow_sub_one_eq_mod]
 have h4:n%2^m<2^k.bits:=Nat.lt_of_lt_of_le (qC1 _ h0) h3
 unfold IntKind.wrap
 simp only[hs,qCO,qBy,if_false]
 rw[Int.emod_eq_of_lt (by omega) (by exact_mod_cast h4)]
 simp
theorem qsg {b:Int}{m:Nat}(ha:0≤a)(ham:a<2^m)(hb:0≤b)(hbm:b%2^m=0)(hs:k.signed=false)(hab:a+b<2^k.bits):ior k a b=a+b:=by
 unfold ior
 obtain ⟨x,rfl⟩:=qBm ha
 obtain ⟨y,rfl⟩:=qBm hb
 have hx:x<2^m:=by exact_mod_cast ham
 have hy:y%2^m=0:=by exact_mod_cast hbm
 have hxy:x+y<2^k.bits:=by exact_mod_cast hab
 have h1:(qBS k.bits (x:Int))=qBI k.bits x:=by simp
 have h2:(qBS k.bits (y:Int))=qBI k.bits y:=by simp
 rw[h1,h2,BitVec.toNat_or,qCI,qCI,qB8 (by omega),qB8 (by omega)]
 have h3:x ||| y=x+y:=by
  have hy2:y=2^m*(y/2^m):=by
   have:=qDa y (2^m);omega
  have h4:=Nat.two_pow_add_eq_or_of_lt hx (y/2^m)
  rw[← hy2] at h4
  rw[Nat.or_comm,← h4,Nat.add_comm]
 rw[h3]
 unfold IntKind.wrap
 simp only[hs,qCO,qBy,if_false]
 rw[Int.emod_eq_of_lt (by omega) (by exact_mod_cast hxy)]
 simp
theorem qhB {m:Nat}(hm:m≤k.bits):ishr k a (m:Int)=a/2^m:=by
 unfold ishr
 have h:min ((m:Int).toNat) k.bits=m:=by simp;omega
 rw[h,Int.fdiv_eq_ediv_of_nonneg _ (by exact_mod_cast qBH _)]
theorem qlg {m:Nat}(hm:m≤64):ishl .u64 a (m:Int)=(a*2^m)%18446744073709551616:=by
 unfold ishl
 have h:min ((m:Int).toNat) (IntKind.bits .u64)=m:=by simp[IntKind.bits];omega
 rw[h,qjs]
class UnF (P:Program) (t:TypeId) (d:outParam TypeDesc):Prop where
 u:P.underlying t=some d
@[reducible] def lp {S ρ:Type} (f:(S→Option ρ)→S→Option ρ):Nat→S→Option ρ
 | 0=>fun _=>none
 | k+1=>f (lp f k)
class EnC (P:Program) (f:FuncId):Prop where
 e:Enters P f
theorem EnC.of {c : Code}(hf : P.funcs[f]? = some fn)(hname : (fn.name == "runtime.NumGoroutine") = false := by rfl)(hb : fn.body = some c := by rfl) : EnC P f := ⟨qjE hf hname hb⟩
structure Stp (p:List Nat) (A:Prop):Prop where
 go:A
structure Stq (p:List Nat) (A:Prop):Prop where
 go:A
theorem stp0 (h:A):Stp [] A:=⟨h⟩
theorem sta (c:Nat){p:List Nat}(h:Stq p A):Stq (c::p) A:=⟨h.go⟩
theorem stc (c:Nat){p:List Nat}(h:Stq p A):Stp (c::p) A:=⟨h.go⟩
theorem stk {p:List Nat}{A':Prop}(f:A'→A)(h:Stp p A'):Stq p A:=⟨f h.go⟩
theorem stz (h:A):Stq [] A:=⟨h⟩
structure Stv (p:List Nat) (B A:Prop):Prop where
 go:B→A
def secs:Nat→Code→Code
 | 0,c=>c
 | j+1,.seq _ y=>secs j y
 | _+1,c=>c
inductive Gets {α:Type} (R:List α):List Nat→List α→Prop
 | nil:Gets R [] []
 | cons {is:List Nat} {R':List α} {r:α} (i:Nat) (h:R[i]?=some r) (hp:Gets R is R'):Gets R (i::is) (r::R')
def dn (i j:Nat):Nat:=if i<j then j-1 else j
theorem qqL {R:List α}{is:List Nat}(i:Nat)(h:Gets R is R')(hn:i∉is):Gets (R.eraseIdx i) (is.map (dn i)) R':=by
 induction h with
 | nil=>exact .nil
 | @cons is R' r j h _ ih =>
  simp only[qBp,not_or] at hn
  refine .cons _ ?_ (ih hn.2)
  rw[List.getElem?_eraseIdx]
  unfold dn
  by_cases h1:i<j
  ·rw[if_pos h1,if_neg (by omega),show j-1+1=j from by omega];exact h
  ·rw[if_neg h1,if_pos (by omega)];exact h
theorem qss {α:Type}:∀ (R' R:List α) (is:List Nat),Gets R is R'→is.Nodup→Pick R R'
 | [],_,_,_,_=>.nil
 | _::R',R,_,.cons (is:=is) i h hp,hn=>by
  have hn':=qCi.1 hn
  refine .cons i h (qss R' _ (is.map (dn i)) (qqL i hp hn'.1) ?_)
  have:∀ (l:List Nat),l.Nodup→i∉l→(l.map (dn i)).Nodup:=by
   intro l
   induction l with
   | nil=>intro _ _;exact List.nodup_nil
   | cons a l ih =>
    intro hl hi
    have hl':=qCi.1 hl
    simp only[qBp,not_or] at hi
    refine qCi.2 ⟨fun hm=>?_,ih hl'.2 hi.2⟩
    obtain ⟨b,hb,e⟩:=qBK.1 hm
    have hib:i≠b:=fun e=>hi.2 (e▸hb)
    have:a=b:=by unfold dn at e;split at e <;> split at e <;> omega
    exact hl'.1 (this▸hb)
  exact this is hn'.2 hn'.1
theorem pk {R:List α}(is:List Nat)(h:Gets R is R':=by (try dsimp only);repeat (first | exact .nil | refine .cons _ rfl ?_))(hn:is.Nodup:=by decide):Pick R R':=qss R' R is h hn
variable {ro:Option Nat}{n:Nat}{D:List Deferred}{M0:List Nat}{w0:World}{Q:Exit→Act→World→Prop}{ρ:Type}{p:List Nat}
variable {ops:Array Oper}{rest:List Oper}{l:Env}{B:List BlkD}{R:List RowD}{F:List (World→Prop)}{m:Option ρ}{r:ρ}{ps:List Nat}{Bs:List BlkD}{Fs:List (World→Prop)}{x y c:Code}
variable {t:TypeId}{pos:String}{af:Array Edge}{gd:Option (Nat×Bool)}{d:Nat}
variable {I':Env}
theorem lka (h:∀ p∈I',look l p.1=some p.2:=by (try dsimp only);repeat (first | exact qdB | refine qk rfl ?_)):∀ p∈I',look l p.1=some p.2:=h
theorem pka {R:List α}(h:Pick R R':=by (try dsimp only);repeat (first | exact .nil | refine .cons 0 rfl ?_ | refine .cons 1 rfl ?_ | refine .cons 2 rfl ?_ | refine .cons 3 rfl ?_ | refine .cons 4 rfl ?_ | refine .cons 5 rfl ?_ | refine .cons 6 rfl ?_ | refine .cons 7 rfl ?_ | refine .cons 8 rfl ?_ | refine .cons 9 rfl ?_ | refine .cons 10 rfl ?_ | refine .cons 11 rfl ?_ | refine .cons 12 rfl ?_ | refine .cons 13 rfl ?_ | refine .cons 14 rfl ?_ | refine .cons 15 rfl ?_ | refine .cons 16 rfl ?_ | refine .cons 17 rfl ?_)):Pick R R':=h
theorem tka {R S:List α}(h:Takes R R' S:=by repeat (first | exact .nil | apply Takes.cons 0 rfl | apply Takes.cons 1 rfl | apply Takes.cons 2 rfl | apply Takes.cons 3 rfl | apply Takes.cons 4 rfl | apply Takes.cons 5 rfl | apply Takes.cons 6 rfl | apply Takes.cons 7 rfl | apply Takes.cons 8 rfl | apply Takes.cons 9 rfl | apply Takes.cons 10 rfl | apply Takes.cons 11 rfl | apply Takes.cons 12 rfl | apply Takes.cons 13 rfl | apply Takes.cons 14 rfl | apply Takes.cons 15 rfl | apply Takes.cons 16 rfl | apply Takes.cons 17 rfl)):Takes R R' S:=h
theorem fka {F':List (World→Prop)}(h:∀ φ∈F',φ∈F:=by (try dsimp only);repeat (first | exact zB | refine qi 0 rfl ?_ | refine qi 1 rfl ?_ | refine qi 2 rfl ?_ | refine qi 3 rfl ?_ | refine qi 4 rfl ?_ | refine qi 5 rfl ?_ | refine qi 6 rfl ?_ | refine qi 7 rfl ?_ | refine qi 8 rfl ?_ | refine qi 9 rfl ?_ | refine qi 10 rfl ?_ | refine qi 11 rfl ?_ | refine qi 12 rfl ?_ | refine qi 13 rfl ?_ | refine qi 14 rfl ?_ | refine qi 15 rfl ?_ | refine qi 16 rfl ?_ | refine qi 17 rfl ?_)):∀ φ∈F',φ∈F:=h
theorem araR {φ:World→Prop}(j:Nat){rd:RowD}(h:R[j]?=some rd)(e:Cells rd.v rd.n rd.size rd.cs=φ)(ha:Args R F Φ):Args R F (φ::Φ):=e▸.consR j rd h ha
theorem armR {φ:World→Prop}(j:Nat){rd:RowD}(h:R[j]?=some rd)(e:Cells rd.v rd.n rd.size rd.cs=φ)(ha:ArgsM R F Φ):ArgsM R F (φ::Φ):=e▸.consR j rd h ha
theorem ara (h:Args R F Φ:=by repeat (first | exact .nil | refine .consF 0 rfl ?_ | refine .consF 1 rfl ?_ | refine .consF 2 rfl ?_ | refine .consF 3 rfl ?_ | refine .consF 4 rfl ?_ | refine .consF 5 rfl ?_ | refine .consF 6 rfl ?_ | refine .consF 7 rfl ?_ | refine .consF 8 rfl ?_ | refine .consF 9 rfl ?_ | refine .consF 10 rfl ?_ | refine .consF 11 rfl ?_ | refine .consF 12 rfl ?_ | refine .consF 13 rfl ?_ | refine .consF 14 rfl ?_ | refine .consF 15 rfl ?_ | refine .consF 16 rfl ?_ | refine .consF 17 rfl ?_ | refine araR 0 rfl rfl ?_ | refine araR 1 rfl rfl ?_ | refine araR 2 rfl rfl ?_ | refine araR 3 rfl rfl ?_ | refine araR 4 rfl rfl ?_ | refine araR 5 rfl rfl ?_ | refine araR 6 rfl rfl ?_ | refine araR 7 rfl rfl ?_ | refine araR 8 rfl rfl ?_ | refine araR 9 rfl rfl ?_ | refine araR 10 rfl rfl ?_ | refine araR 11 rfl rfl ?_ | refine araR 12 rfl rfl ?_ | refine araR 13 rfl rfl ?_ | refine araR 14 rfl rfl ?_ | refine araR 15 rfl rfl ?_ | refine araR 16 rfl rfl ?_ | refine araR 17 rfl rfl ?_ | refine .consG 0 rfl (zU fun _=>rfl) ?_ | refine .consG 1 rfl (zU fun _=>rfl) ?_ | refine .consG 2 rfl (zU fun _=>rfl) ?_ | refine .consG 3 rfl (zU fun _=>rfl) ?_ | refine .consG 4 rfl (zU fun _=>rfl) ?_ | refine .consG 5 rfl (zU fun _=>rfl) ?_ | refine .consG 6 rfl (zU fun _=>rfl) ?_ | refine .consG 7 rfl (zU fun _=>rfl) ?_ | refine .consG 8 rfl (zU fun _=>rfl) ?_ | refine .consG 9 rfl (zU fun _=>rfl) ?_)):Args R F Φ:=h
theorem arma (h:ArgsM R F Φ:=by repeat (first | exact .nil | refine .consF 0 rfl ?_ | refine .consF 1 rfl ?_ | refine .consF 2 rfl ?_ | refine .consF 3 rfl ?_ | refine .consF 4 rfl ?_ | refine .consF 5 rfl ?_ | refine .consF 6 rfl ?_ | refine .consF 7 rfl ?_ | refine .consF 8 rfl ?_ | refine .consF 9 rfl ?_ | refine .consF 10 rfl ?_ | refine .consF 11 rfl ?_ | refine .consF 12 rfl ?_ | refine .consF 13 rfl ?_ | refine .consF 14 rfl ?_ | refine .consF 15 rfl ?_ | refine .consF 16 rfl ?_ | refine .consF 17 rfl ?_ | refine armR 0 rfl rfl ?_ | refine armR 1 rfl rfl ?_ | refine armR 2 rfl rfl ?_ | refine armR 3 rfl rfl ?_ | refine armR 4 rfl rfl ?_ | refine armR 5 rfl rfl ?_ | refine armR 6 rfl rfl ?_ | refine armR 7 rfl rfl ?_ | refine armR 8 rfl rfl ?_ | refine armR 9 rfl rfl ?_ | refine armR 10 rfl rfl ?_ | refine armR 11 rfl rfl ?_ | refine armR 12 rfl rfl ?_ | refine armR 13 rfl rfl ?_ | refine armR 14 rfl rfl ?_ | refine armR 15 rfl rfl ?_ | refine armR 16 rfl rfl ?_ | refine armR 17 rfl rfl ?_ | refine .consG 0 rfl (zU fun _=>rfl) ?_ | refine .consG 1 rfl (zU fun _=>rfl) ?_ | refine .consG 2 rfl (zU fun _=>rfl) ?_ | refine .consG 3 rfl (zU fun _=>rfl) ?_ | refine .consG 4 rfl (zU fun _=>rfl) ?_ | refine .consG 5 rfl (zU fun _=>rfl) ?_ | refine .consG 6 rfl (zU fun _=>rfl) ?_ | refine .consG 7 rfl (zU fun _=>rfl) ?_ | refine .consG 8 rfl (zU fun _=>rfl) ?_ | refine .consG 9 rfl (zU fun _=>rfl) ?_)):ArgsM R F Φ:=h
theorem qjj {i:Nat}{o:Oper}{V:Value}(ho:ops[i]?=some o)(hd:o.dst=some d)(hw:wants ops l o=some true)(hy:Yv P l [] [] o V)(h:Stp p (SXB P ro ps n D M0 w0 (yx Q) ops Bs Fs fuel (done.setIfInBounds i true) ((d,V)::l) B R F m r))(hk:okP ops ps done i d n=true:=by kernel_rfl):Stq (i::p) (SXB P ro ps n D M0 w0 (yx Q) ops Bs Fs (fuel+1) done l B R F m r):=⟨qb i V ho hd hw hy h.go hk⟩
theorem qji {i:Nat}{o:Oper}{V:Value}(ho:ops[i]?=some o)(hd:o.dst=some d)(hw:wants ops l o=some true)(hy:Yv P l Bs [] o V)(h:Stp p (SXB P ro ps n D M0 w0 (yx Q) ops Bs Fs fuel (done.setIfInBounds i true) ((d,V)::l) B R F m r))(hk:okP ops ps done i d n=true:=by kernel_rfl):Stq (i::p) (SXB P ro ps n D M0 w0 (yx Q) ops Bs Fs (fuel+1) done l B R F m r):=⟨qr i V ho hd hw hy h.go hk⟩
theorem qyn {i:Nat}{o:Oper}(ho:ops[i]?=some o)(hd:o.dst=some d)(hw:wants ops l o=some false)(h:Stp p (SXB P ro ps n D M0 w0 (yx Q) ops Bs Fs fuel (done.setIfInBounds i true) ((d,undef)::l) B R F m r))(hk:okP ops ps done i d n=true:=by kernel_rfl):Stq (i::p) (SXB P ro ps n D M0 w0 (yx Q) ops Bs Fs (fuel+1) done l B R F m r):=⟨qwv i ho hd hw h.go hk⟩
theorem qyo {done':Array Bool}{i:Nat}{o:Oper}(ho:ops[i]?=some o)(hr:Region.ready .any ops done=[i])(hdone:done.setIfInBounds i true=done')(h:Stp p (SXO P ro n D M0 w0 (Exit.then (fun a w=>Sh ps Bs Fs done' w∧anyK ro P ops Q (Sh ps Bs Fs) fuel done' a w) Q) ops [o] l B R F m r)):Stq (i::p) (SXB P ro ps n D M0 w0 Q ops Bs Fs (fuel+1) done l B R F m r):=⟨qgs i ho hr hdone h.go⟩
theorem qL (K:S→Env×List BlkD×List RowD×List (World→Prop)×Option ρ)(hx:SXC P ro n D M0 w0 (Exit.then (fun a w=>∃ s,(K s).2.2.2.2=some r∧Fr n D a (K s).1∧Hp M0 w0 w (K s).2.1 (K s).2.2.1 (K s).2.2.2.1) Q) x l B R F m r)(hy:∀ s,SXC P ro n D M0 w0 Q y (K s).1 (K s).2.1 (K s).2.2.1 (K s).2.2.2.1 (K s).2.2.2.2 r):SXC P ro n D M0 w0 Q (.seq x y) l B R F m r:=qdj _ _ _ _ _ hx hy
theorem qgv (k:Nat)(K:S→Env×List BlkD×List RowD×List (World→Prop)×Option ρ)(hx:SXO P ro n D M0 w0 (Exit.then (fun a w=>∃ s,(K s).2.2.2.2=some r∧Fr n D a (K s).1∧Hp M0 w0 w (K s).2.1 (K s).2.2.1 (K s).2.2.2.1) Q) ops (rest.take k) l B R F m r)(hy:∀ s,SXO P ro n D M0 w0 Q ops (rest.drop k) (K s).1 (K s).2.1 (K s).2.2.1 (K s).2.2.2.1 (K s).2.2.2.2 r):SXO P ro n D M0 w0 Q ops rest l B R F m r:=qlO k _ _ _ _ _ hx hy
theorem qt4 (K:S→Env×List BlkD×List RowD×List (World→Prop))(ml:Nat→S→Option ρ)(s0:S)(k0:Nat)(hround:∀ k s,SXC P ro n D M0 w0 (Exit.then (fun a w=>∃ k'<k+1,∃ s,ml k' s=some r∧Fr n D a (K s).1∧Hp M0 w0 w (K s).2.1 (K s).2.2.1 (K s).2.2.2) Q) c (K s).1 (K s).2.1 (K s).2.2.1 (K s).2.2.2 (ml (k+1) s) r)(hI:∀ p∈(K s0).1,look l p.1=some p.2:=by exact lka)(hB:Pick B (K s0).2.1:=by exact pka)(hR:Pick R (K s0).2.2.1:=by exact pka)(hF:∀ φ∈(K s0).2.2.2,φ∈F:=by exact fka)(hz:∀ s,ml 0 s=none:=by exact fun _=>rfl) :
  SXC P ro n D M0 w0 Q (.loop c) l B R F (ml k0 s0) r:=vy _ _ _ _ ml s0 k0 hround hI hB hR hF hz
def pickL {α:Type}(R:List α):List Nat→Option (List α)
 | []=>some []
 | i::is=>match R[i]?,pickL R is with
  | some r,some a=>some (r::a)
  | _,_=>none
theorem qjP {α:Type}{R:List α}:∀ {is:List Nat} {A:List α},pickL R is=some A→∀ x∈A,x∈R
 | [],A,h=>by cases h;simp
 | i::is,A,h=>by
  unfold pickL at h
  split at h
  ·rename_i r a h1 h2
   cases h
   intro x hx
   rcases qBp.1 hx with rfl | hx
   ·exact qBl h1
   ·exact qjP h2 x hx
  ·cases h
def pickR {α:Type}:List α→List Nat→Option (List α×List α)
 | R,[]=>some ([],R)
 | R,i::is=>match R[i]? with
  | some r=>match pickR (R.eraseIdx i) is with
   | some p=>some (r::p.1,p.2)
   | none=>none
  | none=>none
theorem qgM {α:Type}:∀ {is:List Nat} {R A R' C:List α},pickR R is=some (A,R')→Pick R' C→Pick R (A++C)
 | [],R,A,R',C,h,hc=>by cases h;exact hc
 | i::is,R,A,R',C,h,hc=>by
  unfold pickR at h
  split at h
  ·rename_i r h1
   split at h
   ·rename_i p h2
    cases h
    exact .cons i h1 (qgM (by rw[h2]) hc)
   ·cases h
  ·cases h
theorem qlr {l:Env}:∀ {ks:List Nat} {I:Env},pickE l ks=some I→∀ p∈I,look l p.1=some p.2
 | [],I,h=>by cases h;simp
 | k::ks,I,h=>by
  unfold pickE at h
  split at h
  ·rename_i v J h1 h2
   cases h
   intro p hp
   rcases qBp.1 hp with rfl | hp
   ·exact h1
   ·exact qlr h2 p hp
  ·cases h
theorem qg (ks kb kr kf:List Nat)(K:S→Env×List BlkD×List RowD×List (World→Prop)×Option ρ)(hx:SXC P ro n D M0 w0 (Exit.then (fun a w=>∃ s,(K s).2.2.2.2=some r∧Fr n D a (I0++(K s).1)∧Hp M0 w0 w (B0++(K s).2.1) (R0++(K s).2.2.1) (F0++(K s).2.2.2.1)) Q) x l B R F m r)(hy:∀ s,SXC P ro n D M0 w0 Q y (I0++(K s).1) (B0++(K s).2.1) (R0++(K s).2.2.1) (F0++(K s).2.2.2.1) (K s).2.2.2.2 r)(_hI:pickE l ks=some I0:=by rfl)(_hB:pickL B kb=some B0:=by rfl)(_hR:pickL R kr=some R0:=by rfl)(_hF:pickL F kf=some F0:=by rfl) :
  SXC P ro n D M0 w0 Q (.seq x y) l B R F m r:=qdj _ _ _ _ _ hx hy
theorem kH (k:Nat)(ks kb kr kf:List Nat)(K:S→Env×List BlkD×List RowD×List (World→Prop)×Option ρ)(hx:SXO P ro n D M0 w0 (Exit.then (fun a w=>∃ s,(K s).2.2.2.2=some r∧Fr n D a (I0++(K s).1)∧Hp M0 w0 w (B0++(K s).2.1) (R0++(K s).2.2.1) (F0++(K s).2.2.2.1)) Q) ops (rest.take k) l B R F m r)(hy:∀ s,SXO P ro n D M0 w0 Q ops (rest.drop k) (I0++(K s).1) (B0++(K s).2.1) (R0++(K s).2.2.1) (F0++(K s).2.2.2.1) (K s).2.2.2.2 r)(_hI:pickE l ks=some I0:=by rfl)(_hB:pickL B kb=some B0:=by rfl)(_hR:pickL R kr=some R0:=by rfl)(_hF:pickL F kf=some F0:=by rfl) :
  SXO P ro n D M0 w0 Q ops rest l B R F m r:=qlO k _ _ _ _ _ hx hy
theorem qm4 (ks kb kr kf:List Nat)(K:S→Env×List BlkD×List RowD×List (World→Prop))(ml:Nat→S→Option ρ)(s0:S)(k0:Nat){B':List BlkD}{R':List RowD}(hround:∀ k s,SXC P ro n D M0 w0 (Exit.then (fun a w=>∃ k'<k+1,∃ s,ml k' s=some r∧Fr n D a (I0++(K s).1)∧Hp M0 w0 w (B0++(K s).2.1) (R0++(K s).2.2.1) (F0++(K s).2.2.2)) Q) c (I0++(K s).1) (B0++(K s).2.1) (R0++(K s).2.2.1) (F0++(K s).2.2.2) (ml (k+1) s) r)(hI0:pickE l ks=some I0:=by rfl)(hB0:pickR B kb=some (B0,B'):=by rfl)(hR0:pickR R kr=some (R0,R'):=by rfl)(hF0:pickL F kf=some F0:=by rfl)(hI:∀ p∈(K s0).1,look l p.1=some p.2:=by exact lka)(hB:Pick B' (K s0).2.1:=by exact pka)(hR:Pick R' (K s0).2.2.1:=by exact pka)(hF:∀ φ∈(K s0).2.2.2,φ∈F:=by exact fka)(hz:∀ s,ml 0 s=none:=by exact fun _=>rfl) :
  SXC P ro n D M0 w0 Q (.loop c) l B R F (ml k0 s0) r :=
 vy (fun s=>I0++(K s).1) (fun s=>B0++(K s).2.1) (fun s=>R0++(K s).2.2.1) (fun s=>F0++(K s).2.2.2) ml s0 k0 hround
  (fun p hp=>(qBn.1 hp).elim (qlr hI0 p) (hI p)) (qgM hB0 hB) (qgM hR0 hR) (fun φ h=>(qBn.1 h).elim (qjP hF0 φ) (hF φ)) hz
theorem qa {I:S→Env}{IB:S→List BlkD}{IR:S→List RowD}{IF:S→List (World→Prop)}{mj:S→Option ρ}{K:Exit→Act→World→Prop}(s:S)(hI:∀ p∈I s,look l p.1=some p.2:=by exact lka)(hB:Pick B (IB s):=by exact pka)(hR:Pick R (IR s):=by exact pka)(hF:∀ φ∈IF s,φ∈F:=by exact fka) :
  SXQ n D M0 w0 (Exit.then (fun a w=>∃ s,mj s=some r∧Fr n D a (I s)∧Hp M0 w0 w (IB s) (IR s) (IF s)) K) .normal l B R F (mj s) r:=ya s hI hB hR hF
theorem qj {I:S→Env}{IB:S→List BlkD}{IR:S→List RowD}{IF:S→List (World→Prop)}{ml:Nat→S→Option ρ}{K:Exit→Act→World→Prop}{k:Nat}(s:S)(hI:∀ p∈I s,look l p.1=some p.2:=by exact lka)(hB:Pick B (IB s):=by exact pka)(hR:Pick R (IR s):=by exact pka)(hF:∀ φ∈IF s,φ∈F:=by exact fka) :
  SXQ n D M0 w0 (Exit.then (fun a w=>∃ k'<k+1,∃ s,ml k' s=some r∧Fr n D a (I s)∧Hp M0 w0 w (IB s) (IR s) (IF s)) K) .normal l B R F (ml k s) r:=vn s hI hB hR hF
theorem qd {γ:Type}{mg:Option α}{k:α→Option ρ}{xs:Array Operand}{tys:Array TypeId}{V:α→γ→Value}{RW:α→γ→List RowD}{PH:α→γ→List (World→Prop)}(hC:∀ {y},mg=some y→Pure P f vs Φ γ (V y) (RW y) (PH y))(h:∀ y,mg=some y→∀ g,SXO P ro n D M0 w0 Q ops rest ((d,V y g)::l) B (RW y g++R) (PH y g++F) (k y) r)(he:Enters P f:=by exact EnC.e)(hw:wants ops l ⟨some d,.call ⟨.value (.func f),xs,tys⟩,t,pos,af,gd⟩=some true:=by rfl)(hx:evArgs l xs.toList=some vs:=by rfl)(hd:Nat.blt d n=true:=by rfl)(ha:Args R F Φ:=by exact ara) :
  SXO P ro n D M0 w0 Q ops (⟨some d,.call ⟨.value (.func f),xs,tys⟩,t,pos,af,gd⟩::rest) l B R F (mg.bind k) r:=yY he hw hx hd (fun _=>hC) ha h
theorem qs {γ:Type}{mg:Option α}{k:α→Option ρ}{xs:Array Operand}{tys:Array TypeId}{V:α→γ→Value}{BS:List BlkD}{RS:List RowD}{B1:α→γ→List BlkD}{R1:α→γ→List RowD}(hC:∀ {y},mg=some y→PureM P f vs B0 R0 Φ γ (V y) (B1 y) (R1 y))(h:∀ y,mg=some y→∀ g,SXO P ro n D M0 w0 Q ops rest ((d,V y g)::l) (B1 y g++BS) (R1 y g++RS) F (k y) r)(he:Enters P f:=by exact EnC.e)(hw:wants ops l ⟨some d,.call ⟨.value (.func f),xs,tys⟩,t,pos,af,gd⟩=some true:=by rfl)(hx:evArgs l xs.toList=some vs:=by rfl)(hd:Nat.blt d n=true:=by rfl)(hB:Takes B B0 BS:=by exact tka)(hR:Takes R R0 RS:=by exact tka)(ha:ArgsM RS F Φ:=by exact arma) :
  SXO P ro n D M0 w0 Q ops (⟨some d,.call ⟨.value (.func f),xs,tys⟩,t,pos,af,gd⟩::rest) l B R F (mg.bind k) r:=qcB he hw hx hd (fun _=>hC) hB hR ha h
theorem qww (h:SXC P ro n D M0 w0 Q c [] B R F m r):SXC P ro n D M0 w0 Q c (([]:List Value).zipIdx.map fun p=>(p.2,p.1)) B R F m r:=h
theorem qwx (h:SXC P ro n D M0 w0 Q c [(0,a0)] B R F m r):SXC P ro n D M0 w0 Q c ([a0].zipIdx.map fun p=>(p.2,p.1)) B R F m r:=h
theorem qwy (h:SXC P ro n D M0 w0 Q c [(0,a0),(1,a1)] B R F m r):SXC P ro n D M0 w0 Q c ([a0,a1].zipIdx.map fun p=>(p.2,p.1)) B R F m r:=h
theorem qwz {a2:Value}(h:SXC P ro n D M0 w0 Q c [(0,a0),(1,a1),(2,a2)] B R F m r):SXC P ro n D M0 w0 Q c ([a0,a1,a2].zipIdx.map fun p=>(p.2,p.1)) B R F m r:=h
theorem qwA {a2 a3:Value}(h:SXC P ro n D M0 w0 Q c [(0,a0),(1,a1),(2,a2),(3,a3)] B R F m r):SXC P ro n D M0 w0 Q c ([a0,a1,a2,a3].zipIdx.map fun p=>(p.2,p.1)) B R F m r:=h
theorem qwB {a2 a3 a4:Value}(h:SXC P ro n D M0 w0 Q c [(0,a0),(1,a1),(2,a2),(3,a3),(4,a4)] B R F m r):SXC P ro n D M0 w0 Q c ([a0,a1,a2,a3,a4].zipIdx.map fun p=>(p.2,p.1)) B R F m r:=h
theorem qx {γ:Type}{V:γ→Value}{RW:γ→List RowD}{x:ρ}{e:Exit}(g:γ){v:Value}(hres:∀ a w',Fr n [] a l→Hp [] w w' B R F→(results fn a.tmps).run P w'=.ok v w':=by first | exact res1 rfl rfl | exact res2 rfl rfl rfl | exact res3 rfl rfl rfl rfl | exact res0 rfl)(hR:x=r→Pick R (RW g):=by intro h;subst h;exact pka)(hv:x=r→v=V g:=by intro h;subst h;rfl)(he:e=.ret∨e=.normal:=by first | exact .inl rfl | exact .inr rfl) :
  SXQ n [] [] w (bodyPost P fn fun e w'=>∃ g:γ,e=.returned (V g)∧Ret w w' (RW g) []) e l B R F (some x) r:=qhN g hres hR hv he
theorem qH {γ:Type}{V:γ→Value}{B1:γ→List BlkD}{R1:γ→List RowD}{x:ρ}{e:Exit}(g:γ){v:Value}(hres:∀ a w',Fr n [] a l→Hp M0 w w' B R F→(results fn a.tmps).run P w'=.ok v w':=by first | exact res1 rfl rfl | exact res2 rfl rfl rfl | exact res3 rfl rfl rfl rfl | exact res0 rfl)(hB:x=r→Pick B (B1 g):=by intro h;subst h;exact pka)(hR:x=r→Pick R (R1 g):=by intro h;subst h;exact pka)(hv:x=r→v=V g:=by intro h;subst h;rfl)(he:e=.ret∨e=.normal:=by first | exact .inl rfl | exact .inr rfl) :
  SXQ n [] M0 w (bodyPost P fn fun e w'=>∃ g:γ,e=.returned (V g)∧Hp M0 w w' (B1 g) (R1 g) []) e l B R F (some x) r:=yr g hres hB hR hv he
theorem qui {I:Env}{K:Exit→Act→World→Prop}(hI:∀ p∈I,look l p.1=some p.2:=by exact lka) :
  SXQ n D M0 w0 (Exit.then (fun a w=>∃ _s:Unit,m=some r∧Fr n D a I∧Hp M0 w0 w B R F) K) .normal l B R F m r:=qwX hI
theorem vj (j:Nat)(K:S→Env×List BlkD×List RowD×List (World→Prop)×Option ρ)(hy:∀ s,SXC P ro n D M0 w0 Q (secs j c) (K s).1 (K s).2.1 (K s).2.2.1 (K s).2.2.2.1 (K s).2.2.2.2 r)(hx:(∀ s,SXC P ro n D M0 w0 Q (secs j c) (K s).1 (K s).2.1 (K s).2.2.1 (K s).2.2.2.1 (K s).2.2.2.2 r)→SXC P ro n D M0 w0 Q c l B R F m r):SXC P ro n D M0 w0 Q c l B R F m r:=hx hy
theorem qt {K0:Exit→Act→World→Prop}{K:S→Env×List BlkD×List RowD×List (World→Prop)×Option ρ}(hj:∀ s,SXC P ro n D M0 w0 Q x (K s).1 (K s).2.1 (K s).2.2.1 (K s).2.2.2.1 (K s).2.2.2.2 r)(s:S)(hI:∀ p∈(K s).1,look l p.1=some p.2:=by exact lka)(hB:Pick B (K s).2.1:=by exact pka)(hR:Pick R (K s).2.2.1:=by exact pka)(hF:∀ φ∈(K s).2.2.2.1,φ∈F:=by exact fka) :
  SXQ n D M0 w0 (Exit.then (gwp ro P x Q) K0) .normal l B R F (K s).2.2.2.2 r :=
 fun hm a w hf hp=>hj s hm a w (hf.less hI) (hp.pick hB hR hF)
theorem pcN {R A:List α}(is:List Nat)(h:pickR R is=some (A,R'):=by rfl):Pick R A:=by
 have:=qgM h (C:=[]) .nil
 rwa [qBV] at this
theorem gkN (is:List Nat)(h:pickL F is=some Fs:=by rfl):∀ φ∈Fs,φ∈F∨(∃ rd∈R,∀ w,Cells rd.v rd.n rd.size rd.cs w→φ w)∨∃ b∈B,∀ w,b.is w→φ w:=fun φ hφ=>.inl (qjP h φ hφ)
class Mx (P:Program):Prop where
 m:P.follows .mixedOrders=true
theorem qE {id:Nat}{os:List Oper}{R':List BlkD}(ps ib is:List Nat)(k:Nat)(h:SXB P ro ps n D M0 w0 (yx Q) os.toArray Bs Fs k (Array.replicate k false) l B R F m r)(hm:P.follows .mixedOrders=true:=by exact Mx.m)(hB:pickR B ib=some (Bs,R'):=by rfl)(hF:pickL F is=some Fs:=by rfl)(hk:os.length=k:=by rfl):SXC P ro n D M0 w0 Q (.region id os.toArray true) l B R F m r :=
 kg hm ps Bs Fs (pcN ib hB) (gkN is hF) k hk h
theorem zm {K:Exit→Act→World→Prop}{R':List BlkD}(ib is:List Nat)(h:SXB P ro ps n D M0 w0 Q ops Bs Fs fuel done l B R F m r)(hB:pickR B ib=some (Bs,R'):=by rfl)(hF:pickL F is=some Fs:=by rfl) :
  SXQ n D M0 w0 (Exit.then (fun a w=>Sh ps Bs Fs done w∧anyK ro P ops Q (Sh ps Bs Fs) fuel done a w) K) .normal l B R F m r:=qc (pcN ib hB) (gkN is hF) h
theorem qm {G:Type}(ks kb kr kf:List Nat)(K:S×G→Env×List BlkD×List RowD×List (World→Prop))(s0:S)(g0:G){f:(S→Option ρ)→S→Option ρ}{k0:Nat}{B':List BlkD}{R':List RowD}(hround:∀ k (s:S×G),SXC P ro n D M0 w0 (Exit.then (fun a w=>∃ k'<k+1,∃ s:S×G,lp f k' s.1=some r∧Fr n D a (I0++(K s).1)∧Hp M0 w0 w (B0++(K s).2.1) (R0++(K s).2.2.1) (F0++(K s).2.2.2)) Q) c (I0++(K s).1) (B0++(K s).2.1) (R0++(K s).2.2.1) (F0++(K s).2.2.2) (f (lp f k) s.1) r)(hI0:pickE l ks=some I0:=by rfl)(hB0:pickR B kb=some (B0,B'):=by rfl)(hR0:pickR R kr=some (R0,R'):=by rfl)(hF0:pickL F kf=some F0:=by rfl)(hI:∀ p∈(K (s0,g0)).1,look l p.1=some p.2:=by exact lka)(hB:Pick B' (K (s0,g0)).2.1:=by exact pka)(hR:Pick R' (K (s0,g0)).2.2.1:=by exact pka)(hF:∀ φ∈(K (s0,g0)).2.2.2,φ∈F:=by exact fka) :
  SXC P ro n D M0 w0 Q (.loop c) l B R F (lp f k0 s0) r :=
 qm4 ks kb kr kf K (fun k s=>lp f k s.1) (s0,g0) k0 hround hI0 hB0 hR0 hF0 hI hB hR hF fun _=>rfl
theorem qdE {γ:Type}{V:γ→Value}{RW:γ→List RowD}{x:ρ}{ex:Exit}(g:γ)(i:Nat){t:Tmp}{ty e:TypeId}{g0 o size:Nat}{V0:Value}{cs:List Value}(hfn:fn.results=#[.cell t ty]:=by rfl)(hx:look l t=some (.pointer (some ⟨g0,o,none⟩)):=by rfl)(hT:TyF P ty agg z size bytes:=by exact inferInstance)(hB:B[i]?=some ⟨g0,e,cs⟩:=by rfl)(hl:((cs.drop o).take size).length=size:=by rfl)(hs:agg=false→size=1:=by simp)(hV:(if agg then .agg ((cs.drop o).take size).toArray else ((cs.drop o).take size).getD 0 undef)=V0:=by rfl)(hR:x=r→Pick R (RW g):=by intro h;subst h;exact pka)(hv:x=r→V0=V g:=by intro h;subst h;rfl)(he:ex=.ret∨ex=.normal:=by first | exact .inl rfl | exact .inr rfl) :
  SXQ n [] [] w (bodyPost P fn fun e w'=>∃ g:γ,e=.returned (V g)∧Ret w w' (RW g) []) ex l B R F (some x) r:=qhN g (resL (rs:=[.cell t ty]) hfn (.cell (i:=i) hx hT hB hl hs hV .nil) rfl) hR hv he
theorem zW {γ:Type}{V:γ→Value}{RW:γ→List RowD}{x:ρ}{ex:Exit}(g:γ)(i:Nat){t:Tmp}{ty e:TypeId}{g0 o size:Nat}{V0:Value}{cs:List Value}{t0:Tmp}{u0:Value}(hfn:fn.results=#[.cell t ty,.tmp t0]:=by rfl)(hx:look l t=some (.pointer (some ⟨g0,o,none⟩)):=by rfl)(hT:TyF P ty agg z size bytes:=by exact inferInstance)(hB:B[i]?=some ⟨g0,e,cs⟩:=by rfl)(hl:((cs.drop o).take size).length=size:=by rfl)(hs:agg=false→size=1:=by simp)(hV:(if agg then .agg ((cs.drop o).take size).toArray else ((cs.drop o).take size).getD 0 undef)=V0:=by rfl)(h0:look l t0=some u0:=by rfl)(hR:x=r→Pick R (RW g):=by intro h;subst h;exact pka)(hv:x=r→.tuple #[V0,u0]=V g:=by intro h;subst h;rfl)(he:ex=.ret∨ex=.normal:=by first | exact .inl rfl | exact .inr rfl) :
  SXQ n [] [] w (bodyPost P fn fun e w'=>∃ g:γ,e=.returned (V g)∧Ret w w' (RW g) []) ex l B R F (some x) r:=qhN g (resL (rs:=[.cell t ty,.tmp t0]) hfn (.cell (i:=i) hx hT hB hl hs hV (.tmp h0 .nil)) rfl) hR hv he
theorem qgw {γ:Type}{V:γ→Value}{RW:γ→List RowD}{x:ρ}{ex:Exit}(g:γ)(i:Nat){t:Tmp}{ty e:TypeId}{g0 o size:Nat}{V0:Value}{cs:List Value}{t0:Tmp}{u0:Value}{t1:Tmp}{u1:Value}(hfn:fn.results=#[.cell t ty,.tmp t0,.tmp t1]:=by rfl)(hx:look l t=some (.pointer (some ⟨g0,o,none⟩)):=by rfl)(hT:TyF P ty agg z size bytes:=by exact inferInstance)(hB:B[i]?=some ⟨g0,e,cs⟩:=by rfl)(hl:((cs.drop o).take size).length=size:=by rfl)(hs:agg=false→size=1:=by simp)(hV:(if agg then .agg ((cs.drop o).take size).toArray else ((cs.drop o).take size).getD 0 undef)=V0:=by rfl)(h0:look l t0=some u0:=by rfl)(h1:look l t1=some u1:=by rfl)(hR:x=r→Pick R (RW g):=by intro h;subst h;exact pka)(hv:x=r→.tuple #[V0,u0,u1]=V g:=by intro h;subst h;rfl)(he:ex=.ret∨ex=.normal:=by first | exact .inl rfl | exact .inr rfl) :
  SXQ n [] [] w (bodyPost P fn fun e w'=>∃ g:γ,e=.returned (V g)∧Ret w w' (RW g) []) ex l B R F (some x) r:=qhN g (resL (rs:=[.cell t ty,.tmp t0,.tmp t1]) hfn (.cell (i:=i) hx hT hB hl hs hV (.tmp h0 (.tmp h1 .nil))) rfl) hR hv he
theorem qF {vs:List (Nat×Value)}{places:List (Nat×Nat)}(cells:List Value)(h:SXO P ro n D M0 w0 Q ops rest ((d,.agg cells.toArray)::l) B R F m r)(hw:wants ops l ⟨some d,.build t' parts,t,pos,af,gd⟩=some true:=by rfl)[hS:StF P t' places z](hp:evParts l parts.toList=some vs:=by rfl)(hfill:Instr.fill (places.toArray[·]?) z.cells vs=some cells.toArray:=by kernel_rfl)(hd:Nat.blt d n=true:=by rfl) :
  SXO P ro n D M0 w0 Q ops (⟨some d,.build t' parts,t,pos,af,gd⟩::rest) l B R F m r:=qt7 hw hS hp hfill hd h
theorem jA {xs:List α}{y:α}{ao:Option Addr}{b c size:Nat}{x ix:Operand}{ki:IntKind}{iv:Int}{e:TypeId}(i:Nat)(ha:ao=some ⟨b,0,none⟩)(he:idx xs iv=some y)(h:SXB P ro ps n D M0 w0 (yx Q) ops Bs Fs fuel (done.setIfInBounds i true) ((d,.pointer (some ⟨b,iv.toNat*size,none⟩))::l) B R F m r)(ho:ops[i]?=some ⟨some d,.indexAddr t' x ix,t,pos,af,gd⟩:=by rfl)(hw:wants ops l ⟨some d,.indexAddr t' x ix,t,pos,af,gd⟩=some true:=by rfl)[ht:UnF P t' (.slice e)][hT:TyF P e agg z size bytes](hx:ev l x=some (.slice ao xs.length c):=by rfl)(hi:ev l ix=some (.int ki iv):=by rfl)(hk:okP ops ps done i d n=true:=by kernel_rfl):SXB P ro ps n D M0 w0 (yx Q) ops Bs Fs (fuel+1) done l B R F m r:=by
 subst ha
 exact qb i _ ho rfl hw (qbu ht.u hT hx hi (qw he).1 (qcu he)) h hk
theorem vW {xs:List α}{y:α}{ao:Option Addr}{b o c size:Nat}{x ix:Operand}{ki:IntKind}{iv:Int}{e:TypeId}(i:Nat)(ha:ao=some ⟨b,o,none⟩)(he:idx xs iv=some y)(h:SXB P ro ps n D M0 w0 (yx Q) ops Bs Fs fuel (done.setIfInBounds i true) ((d,.pointer (some ⟨b,o+iv.toNat*size,none⟩))::l) B R F m r)(ho:ops[i]?=some ⟨some d,.indexAddr t' x ix,t,pos,af,gd⟩:=by rfl)(hw:wants ops l ⟨some d,.indexAddr t' x ix,t,pos,af,gd⟩=some true:=by rfl)[ht:UnF P t' (.slice e)][hT:TyF P e agg z size bytes](hx:ev l x=some (.slice ao xs.length c):=by rfl)(hi:ev l ix=some (.int ki iv):=by rfl)(hk:okP ops ps done i d n=true:=by kernel_rfl):SXB P ro ps n D M0 w0 (yx Q) ops Bs Fs (fuel+1) done l B R F m r:=by
 subst ha
 exact qb i _ ho rfl hw (qxd ht.u hT hx hi (qw he).1 (qcu he)) h hk
theorem jQ {x y:Int}(d:Nat)(he:y=x)(h:SXO P ro n D M0 w0 Q ops rest ((d,.int k y)::l) B R F m r)(hu:look l d=some (.int k x):=by rfl):SXO P ro n D M0 w0 Q ops rest l B R F m r:=qp hu (by rw[he]) h
theorem q9 {u v:Value}(d:Nat)(he:u=v)(h:SXO P ro n D M0 w0 Q ops rest ((d,v)::l) B R F m r)(hu:look l d=some u:=by rfl):SXO P ro n D M0 w0 Q ops rest l B R F m r:=qp hu he h
theorem qhJ {a a':Option Addr}{c k:Nat}(d:Nat)(he:a=a')(h:SXB P ro ps n D M0 w0 Q ops Bs Fs fuel done ((d,.slice a' k c)::l) B R F m r)(hu:look l d=some (.slice a k c):=by rfl):SXB P ro ps n D M0 w0 Q ops Bs Fs fuel done l B R F m r:=zR hu (by rw[he]) h
theorem yA {b b':Bool}(d:Nat)(he:b=b')(h:SXB P ro ps n D M0 w0 Q ops Bs Fs fuel done ((d,.bool b')::l) B R F m r)(hu:look l d=some (.bool b):=by rfl):SXB P ro ps n D M0 w0 Q ops Bs Fs fuel done l B R F m r:=zR hu (by rw[he]) h
theorem zw {e:TypeId}{len:Nat}(ys:List Int)(h:∀ a c,SXO P ro n D M0 w0 Q ops rest ((d,.slice a ys.length c)::l) B (Ro (eI k) e 1 (.slice a ys.length c) ys::R) F m r)(hw:wants ops l ⟨some d,.buildSlice t' len parts,t,pos,af,gd⟩=some true:=by rfl)(hp:evParts l parts.toList=some ((ys.map (Value.int k)).zipIdx.map fun p=>(p.2,p.1)):=by rfl)[ht:UnF P t' (.slice e)][hT:TyF P e agg z 1 bytes](hzs:z.cells.size=1:=by rfl)(hd:Nat.blt d n=true:=by rfl)(hl:len=ys.length:=by rfl)(hbig:len*1≤16777216:=by decide) :
  SXO P ro n D M0 w0 Q ops (⟨some d,.buildSlice t' len parts,t,pos,af,gd⟩::rest) l B R F m r :=
 qaX (qA k) (by decide) hw ht.u hT hzs hd hp (by induction ys <;> simp_all [eI,Value.cells]) hl hbig h
theorem pureA {γ:Type}{V:γ→Value}{RW:γ→List RowD}{PH:γ→List (World→Prop)}{N:Nat}(hfn:P.funcs[f]?=some fn)(hn:fn.ntmps=N)(hm:m=some r)(h:∀ w,SXC P none N [] [] w (bodyPost P fn fun e w'=>∃ g:γ,e=.returned (V g)∧Ret w w' (RW g) (PH g)) c (vs.zipIdx.map fun p=>(p.2,p.1)) [] [] Φ m r)(hb:fn.body=some c:=by rfl)(hvl:Nat.ble vs.length N=true:=by rfl):Pure P f vs Φ γ V RW PH:=qx8 hfn hb hn hvl hm h
theorem pureMA {γ:Type}{V:γ→Value}{B1:γ→List BlkD}{R1:γ→List RowD}{N:Nat}(hfn:P.funcs[f]?=some fn)(hn:fn.ntmps=N)(hm:m=some r)(h:∀ w,SXC P none N [] (muts B0 R0) w (bodyPost P fn fun e w'=>∃ g:γ,e=.returned (V g)∧Hp (muts B0 R0) w w' (B1 g) (R1 g) []) c (vs.zipIdx.map fun p=>(p.2,p.1)) B0 R0 Φ m r)(hb:fn.body=some c:=by rfl)(hvl:Nat.ble vs.length N=true:=by rfl):PureM P f vs B0 R0 Φ γ V B1 R1:=qjc hfn hb hn hvl hm h
theorem bnN {β:Type}(a:Option α):(a.bind fun _=>(none:Option β))=none:=by cases a <;> rfl
theorem pull1 {β γ:Type}{a:Option α}{b:Option β}{f:α→β→Option γ}:(a.bind fun x=>b.bind fun y=>f x y)=b.bind fun y=>a.bind fun x=>f x y:=by
 cases b
 ·exact bnN a
 ·rfl
theorem pull2 {β γ δ:Type}{a:Option α}{b:Option β}{c:α→Option δ}{f:α→δ→β→Option γ}:(a.bind fun x=>(c x).bind fun z=>b.bind fun y=>f x z y)=b.bind fun y=>a.bind fun x=>(c x).bind fun z=>f x z y:=by
 cases b
 ·simp
 ·rfl
end SX
