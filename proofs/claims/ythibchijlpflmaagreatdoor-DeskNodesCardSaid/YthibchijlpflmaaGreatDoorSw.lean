/- A layer of rules for walking Go code: what a frame's slots hold, what blocks and rows of the heap hold; each rule speaks of a plain model's value. -/
import Derived.WalkKit
import Derived.TacticsIn
import Derived.RangeFuncCalls
import Derived.KernelRfl
import Derived.Shelf.Abstract
import Derived.OrdersHeld
open BitVec renaming ofInt→qBS
open Bool renaming and_eq_true→qB6
open Classical renaming choose_spec→qDn
open Int renaming eq_ofNat_of_zero_le→qBm, toNat_natCast→qBo
open List renaming replicate→qBj, getElem?_eq_getElem→qBk, mem_of_getElem?→qBl, mem_append→qBn, mem_cons→qBp, length_append→qBr, append_assoc→qBt, drop_eq_nil_of_le→qBu, mem_cons_self→qBv, mem_cons_of_mem→qBz, getElem?_eq_some_iff→qBC, mem_singleton→qBD, nil_append→qBF, flatMap_cons→qBG, mem_map→qBK, eq_nil_of_length_eq_zero→qBO, all_eq_true→qBX, pairwise_cons→qB0, map_cons→qB2, nodup_append→qB3, length_take→qB7, mem_flatMap→qCa, cons_append→qCb, length_drop→qCc, size_toArray→qCg, take_append_drop→qCk, getElem?_take_of_lt→qCm, take_of_length_le→qCr, take_left→qCt, zipIdx_cons→qCA, getElem?_drop→qCF, getElem?_set→qDg, drop_append→qDE
open List.Perm renaming refl→qBM
open List.Sublist renaming refl→qBL
open Nat renaming le_refl→qBw, zero_le→qBH, mul_le_mul_right→qBN, le_of_ble_eq_true→qBZ, add_mul→qB4, le_trans→qB5, succ_mul→qCE
open Option renaming map_eq_some_iff→qCD, mem_toList→qCW
open Option.some renaming injEq→qBs
namespace SX
open Go
class DM where
 on:Bool
instance dm0:DM:=⟨false⟩
abbrev dm1:DM:=⟨true⟩
set_option linter.unusedSectionVars false
variable [DM]
structure Keeps (M:List Nat) (w w':World):Prop where
 os:w'.os=w.os
 tape:w'.tape=w.tape
 output:w'.output=w.output
 size:w.heap.size≤w'.heap.size
 block:∀ k,k<w.heap.size→k∉M→w'.heap[k]?=w.heap[k]?
 drawn:DM.on=true→w.drawn≤w'.drawn
theorem Keeps.refl (M:List Nat)(w:World):Keeps M w w:=⟨rfl,rfl,rfl,qBw _,fun _ _ _=>rfl,fun _=>qBw _⟩
variable {parts:Array (Nat×Operand)}{fn:Func}{f:FuncId}{b:Int}{k k':IntKind}{places:List (Nat×Nat)}{M:List Nat}{os2:List Oper}{vs:List Value}{i id j lim off:Nat}{S α:Type}{s xt yt:TypeId}{V:Value}{φ:World→Prop}{xs ys:List α}
theorem Keeps.trans {M' M'':List Nat}{a b c:World}(h:Keeps M a b)(h':Keeps M' b c)(hM:∀ k∈M,k∈M'')(hM':∀ k∈M',k∈M''∨a.heap.size≤k):Keeps M'' a c :=
 ⟨h'.os.trans h.os,h'.tape.trans h.tape,h'.output.trans h.output,qB5 h.size h'.size,fun k hk hn =>
  (h'.block k (Nat.lt_of_lt_of_le hk h.size) (fun hm=>by
   grind)).trans (h.block k hk (fun hm=>hn (hM k hm))),fun h0=>qB5 (h.drawn h0) (h'.drawn h0)⟩
theorem Keeps.below {w w':World}(h:Keeps [] w w'):Go.RowKit.Below w.heap.size w w' :=
 ⟨h.os,h.tape,h.output,h.size,fun k hk=>h.block k hk (by simp)⟩
theorem Keeps.alloc (M:List Nat)(w:World)(o:Obj):Keeps M w (w.alloc o) :=
 ⟨rfl,rfl,rfl,by simp,fun k hk _=>Go.RowKit.Below.heap_alloc w o k hk,fun _=>qBw _⟩
theorem Keeps.of_heap {w w':World}(os:w'.os=w.os)(tape:w'.tape=w.tape)(output:w'.output=w.output)(h:w'.heap=w.heap)(hd:w.drawn≤w'.drawn:=by first | exact qBw _ | exact Nat.le_succ _):Keeps M w w':=⟨os,tape,output,by simp_all,fun _ _ _=>by rw[h],fun _=>hd⟩
theorem Keeps.setCell (w:World)(a:Addr)(v:Value)(h:a.block∈M):Keeps M w (w.setCell a v) :=
 ⟨rfl,rfl,rfl,by simp,fun k _ hn=>Go.RowKit.Below.heap_setCell w a v k (fun e=>hn (e▸h)),fun _=>qBw _⟩
def Nec (w:World)(M:List Nat)(φ:World→Prop):Prop:=∀ w',Keeps M w w'→φ w'
theorem Nec.here {w:World}(h:Nec w M φ):φ w:=h w (Keeps.refl _ _)
theorem Nec.step {w w1:World}{M1:List Nat}(h:Nec w M φ)(hk:Keeps M w w1)(hM:∀ k∈M1,k∈M∨w.heap.size≤k):Nec w1 M1 φ :=
 fun w' h'=>h w' (hk.trans h' (fun _ h=>h) hM)
theorem Nec.less {w:World}{M1:List Nat}(h:Nec w M φ)(hM:∀ k∈M1,k∈M):Nec w M1 φ :=
 h.step (Keeps.refl _ _) fun k hk=>.inl (hM k hk)
theorem Nec.imp {w:World}{ψ:World→Prop}(h:Nec w M φ)(hi:∀ w,φ w→ψ w):Nec w M ψ:=fun w' h'=>hi _ (h w' h')
structure Cells (v:Value) (n size:Nat) (cs:List Value) (w:World):Prop where
 val:∃ a cap,v=.slice a n cap∧n≤cap∧cap≤maxLen∧(∀ ad,a=some ad→cs=[]∨ad.spot=none) ∧
  (∀ j u,cs[j]?=some u→∃ ad,a=some ad∧w.cell? ⟨ad.block,ad.off+j,none⟩=some u)
 len:cs.length=n*size
structure RowF where
 v:Value
 e:TypeId
 size:Nat
 n:Nat
 cs:List Value
def RowF.own (r:RowF)(w:World):Prop:=w.ownsRow 0 r.e r.size r.v r.n r.cs
structure RowD where
 v:Value
 e:TypeId
 size:Nat
 n:Nat
 cs:List Value
 [inn:Inhabited (List RowF)]
def RowD.ins (r:RowD):List RowF:=r.inn.default
def RowD.own (r:RowD)(w:World):Prop:=w.ownsRow 0 r.e r.size r.v r.n r.cs
def RowD.owns (r:RowD)(w:World):Prop:=r.own w∧∀ f∈r.ins,f.own w
def RowD.blocks (r:RowD):List Nat:=r.v.ownBlock.toList++r.ins.filterMap (·.v.ownBlock)
theorem RowD.blocks_v {r:RowD}{g:Nat}(h:r.v.ownBlock=some g):g∈r.blocks:=by grind [RowD.blocks]
theorem RowD.blocks_one {r:RowD}(h:r.ins=[]):r.blocks=r.v.ownBlock.toList:=by grind [RowD.blocks]
theorem RowD.owns_one {r:RowD}{w:World}(h:r.own w)(hi:r.ins=[]):r.owns w:=⟨h,by simp_all⟩
structure BlkD where
 g:Nat
 e:TypeId
 cs:List Value
 [ob:Inhabited (Option Obj)]
def BlkD.obj (b:BlkD):Obj:=match b.ob.default with | none=>.cells b.cs.toArray b.e (0,0) | some o=>o
def BlkD.is (b:BlkD)(w:World):Prop:=w.heap[b.g]?=some b.obj
abbrev blkO (g:Nat) (o:Obj):BlkD:=@BlkD.mk g 0 [] ⟨some o⟩
def muts (B:List BlkD)(R:List RowD):List Nat:=B.map (·.g)++R.flatMap RowD.blocks
structure Hp (M0:List Nat) (w0 w:World) (B:List BlkD) (R:List RowD) (F:List (World→Prop)):Prop where
 keep:Keeps M0 w0 w
 blk:∀ b∈B,b.is w
 rows:∀ r∈R,r.owns w
 nodup:(muts B R).Nodup
 fresh:∀ g∈muts B R,g∈M0∨w0.heap.size≤g
 per:∀ φ∈F,Nec w (muts B R) φ
theorem Hp.row {M0:List Nat}{w0 w:World}{B:List BlkD}{R:List RowD}{F:List (World→Prop)}(h:Hp M0 w0 w B R F):∀ r∈R,r.own w:=fun r hr=>(h.rows r hr).1
theorem zd {w:World}{base:Nat}{e:TypeId}{size:Nat}{v:Value}{n:Nat}{xs:List Value}(h:w.ownsRow base e size v n xs):Cells v n size xs w:=by
 obtain ⟨hl,h⟩:=h
 rcases h with ⟨rfl,rfl⟩ | ⟨g,cap,cur,rfl,hb,hg,hn,hc,hs,ht⟩
 ·exact ⟨⟨none,0,rfl,qBw _,by simp,by simp,fun j u hj=>by simp_all⟩,hl⟩
 ·refine ⟨⟨_,cap,rfl,hn,hc,by simp,fun j u hj=>⟨_,rfl,?_⟩⟩,hl⟩
  grind [World.cell?]
abbrev Env:=List (Nat×Value)
def look:Env→Nat→Option Value
 | [],_=>none
 | p::l,i=>bif Nat.beq p.1 i then some p.2 else look l i
structure Fr (n:Nat) (D:List Deferred) (a:Act) (l:Env):Prop where
 defers:a.defers=D
 size:a.tmps.size=n
 val:∀ i v,look l i=some v→a.tmps[i]?=some v
def ev (l:Env):Operand→Option Value
 | .tmp t=>look l t
 | .const v=>some v
 | .func f=>some (.func (.func f) #[] #[])
 | .global _=>none
theorem Fr.ev {n:Nat}{D:List Deferred}{a:Act}{l:Env}(h:Fr n D a l){x:Operand}{v:Value}(hx:SX.ev l x=some v):a.eval x=v:=by
 cases x with
 | tmp t=>have:=h.val t v hx;simp[Act.eval,Array.getD_eq_getD_getElem?,this]
 | const c=>grind [ev,Act.eval]
 | func f=>grind [ev,Act.eval]
 | global g=>simp[SX.ev] at hx
theorem qab {d:Nat}{v:Value}{l:Env}:look ((d,v)::l) i=if d=i then some v else look l i:=by
 simp only[look]
 simp
theorem Fr.put {n:Nat}{D:List Deferred}{a:Act}{l:Env}(h:Fr n D a l){d:Nat}(hd:Nat.blt d n=true)(v:Value):Fr n D (a.put (some d) v) ((d,v)::l):=by
 have hd':d<n:=by simp_all
 refine ⟨h.defers,by simpa[Act.put] using h.size,fun i u hu=>?_⟩
 rw[qab] at hu
 simp only[Act.put]
 by_cases hi:d=i
 ·subst hi
  simp at hu
  subst hu
  rw[Array.getElem?_setIfInBounds]
  simp[h.size,hd']
 ·simp only[hi,if_false] at hu
  rw[Array.getElem?_setIfInBounds]
  simp[hi,h.val i u hu]
theorem Fr.again {n:Nat}{D:List Deferred}{a:Act}{l:Env}(h:Fr n D a l){d:Nat}{u v:Value}(hu:look l d=some u)(he:u=v):Fr n D a ((d,v)::l):=by
 refine ⟨h.defers,h.size,fun i x hx=>?_⟩
 rw[qab] at hx
 by_cases hi:d=i
 ·subst hi;simp at hx;subst hx;subst he;exact h.val _ _ hu
 ·simp only[hi,if_false] at hx;exact h.val _ _ hx
theorem Fr.less {n:Nat}{D:List Deferred}{a:Act}{l l':Env}(h:Fr n D a l)(hs:∀ p∈l',look l p.1=some p.2):Fr n D a l':=by
 refine ⟨h.defers,h.size,fun i v hv=>h.val i v ?_⟩
 clear h
 induction l' with
 | nil=>simp[look] at hv
 | cons p l' ih =>
  obtain ⟨d,u⟩:=p
  rw[qab] at hv
  by_cases hi:d=i
  ·subst hi;simp at hv;subst hv;exact hs (d,u) (by simp)
  ·simp only[hi,if_false] at hv;exact ih (fun p hp=>hs p (by simp[hp])) hv
def Wd (ro:Option Nat):Fence:={ fn:=fun _=>True,depth:=none,alive:=false,round:=ro }
def gwp (ro:Option Nat)(P:Program)(c:Code)(Q:Exit→Act→World→Prop)(a:Act)(w:World):Prop:=c.wpIn (Wd ro) 0 P Q a w
def ke (ro:Option Nat)(P:Program)(ops:Array Oper)(Q:Exit→Act→World→Prop)(os:List Oper)(a:Act)(w:World):Prop:=wpListIn (Wd ro) 0 P ops Q os a w
variable {P:Program}{ro:Option Nat}{ops:Array Oper}{Q:Exit→Act→World→Prop}{rest:List Oper}{o:Oper}{a:Act}{w w':World}
theorem qdA (hw:Region.wanted o (yielded ops a.tmps)=true)(hc:∀ c,o.op≠.defer c)(h:o.uponIn (Wd ro) 0 P a (ke ro P ops Q rest) Q ((execOp a.eval o).run P w)):ke ro P ops Q (o::rest) a w:=by
 unfold ke wpListIn
 rw[if_pos hw]
 refine ⟨fun _ _=>trivial,?_⟩
 rw[Oper.semAt_eq _ _ _ hc]
 exact h
theorem qnN (hw:Region.wanted o (yielded ops a.tmps)=false)(h:ke ro P ops Q rest (a.put o.dst undef) w):ke ro P ops Q (o::rest) a w:=by
 unfold ke wpListIn
 rw[if_neg (by simp_all)]
 exact ⟨fun _ _=>trivial,h⟩
theorem qmm {v:Value}(hw:Region.wanted o (yielded ops a.tmps)=true)(hc:∀ c,o.op≠.defer c)(hr:(execOp a.eval o).run P w=.ok (.value v) w')(h:ke ro P ops Q rest (a.put o.dst v) w'):ke ro P ops Q (o::rest) a w:=by
 refine qdA hw hc ?_
 rw[hr]
 exact h
theorem qeL (hw:Region.wanted o (yielded ops a.tmps)=true)(hc:∀ c,o.op≠.defer c)(hr:(execOp a.eval o).run P w=.ok .skip w')(h:ke ro P ops Q rest (a.put o.dst undef) w'):ke ro P ops Q (o::rest) a w:=by
 refine qdA hw hc ?_
 rw[hr]
 exact h
theorem qdd {args:Array Value}(hw:Region.wanted o (yielded ops a.tmps)=true)(hc:∀ c,o.op≠.defer c)(hr:(execOp a.eval o).run P w=.ok (.enter f args) w)(h:Calls P f args w fun e w'=>∃ v,e=.returned v∧ke ro P ops Q rest (a.put o.dst v) w'):ke ro P ops Q (o::rest) a w:=by
 refine qdA hw hc ?_
 rw[hr]
 refine ⟨fun hd=>by simp[Wd] at hd,?_⟩
 have h':=(callsIn_wide (n:=0)).2 (h.mono (R':=fun
   | .returned v,w''=>ke ro P ops Q rest (a.put o.dst v) w''
   | .panicked chain,w''=>Q (.panic chain) a w''
   | .outgrown,_=>LetsOut Q) fun e w' ⟨v,he,hk⟩=>by simp_all)
 exact h'
theorem qi5 {c:Code}{Q':Exit→Act→World→Prop}(h:gwp ro P c Q a w)(hq:∀ e a w,Q e a w→Q' e a w):gwp ro P c Q' a w:=wpIn_mono h hq
theorem qhl {c:Code}:gwp none P c Q a w↔c.wp P Q a w:=wpIn_wide
section
variable (P:Program) (ro:Option Nat) (n:Nat) (D:List Deferred) (M0:List Nat) (w0:World) (Q:Exit→Act→World→Prop)
def SXO {ρ:Type}(ops:Array Oper)(rest:List Oper)(l:Env)(B:List BlkD)(R:List RowD)(F:List (World→Prop))(m:Option ρ)(r:ρ):Prop :=
 m=some r→∀ a w,Fr n D a l→Hp M0 w0 w B R F→ke ro P ops Q rest a w
def SXC {ρ:Type}(c:Code)(l:Env)(B:List BlkD)(R:List RowD)(F:List (World→Prop))(m:Option ρ)(r:ρ):Prop :=
 m=some r→∀ a w,Fr n D a l→Hp M0 w0 w B R F→gwp ro P c Q a w
def SXQ {ρ:Type}(e:Exit)(l:Env)(B:List BlkD)(R:List RowD)(F:List (World→Prop))(m:Option ρ)(r:ρ):Prop :=
 m=some r→∀ a w,Fr n D a l→Hp M0 w0 w B R F→Q e a w
end
def chk {ρ:Type}(c:Bool)(m:Option ρ):Option ρ:=if c then m else none
def lett {α ρ:Type}(x:α)(k:α→Option ρ):Option ρ:=k x
def idx {α:Type}(xs:List α)(i:Int):Option α:=if 0≤i then xs[i.toNat]? else none
abbrev i64:=IntKind.i64
def iadd (k:IntKind)(a b:Int):Int:=k.wrap (a+b)
def isub (k:IntKind)(a b:Int):Int:=k.wrap (a-b)
def imul (k:IntKind)(a b:Int):Int:=k.wrap (a*b)
def iand (k:IntKind)(a b:Int):Int:=k.wrap (qBS k.bits a &&& qBS k.bits b).toNat
def ior (k:IntKind)(a b:Int):Int:=k.wrap (qBS k.bits a ||| qBS k.bits b).toNat
def ixor (k:IntKind)(a b:Int):Int:=k.wrap (qBS k.bits a ^^^ qBS k.bits b).toNat
def iandn (k:IntKind)(a b:Int):Int:=k.wrap (qBS k.bits a &&& ~~~ qBS k.bits b).toNat
def iquo (k:IntKind)(a b:Int):Int:=k.wrap (a.tdiv b)
def irem (a b:Int):Int:=a.tmod b
def ishl (k:IntKind)(a b:Int):Int:=k.wrap (a*2^(min b.toNat k.bits))
def ishr (k:IntKind)(a b:Int):Int:=a.fdiv (2^(min b.toNat k.bits))
def iconv (k:IntKind)(a:Int):Int:=k.wrap a
theorem qlC {t:TypeId}(ht:P.underlying t=some .bool)(a b:Bool)(w:World):(Op.equal t (.bool a) (.bool b)).run P w=.ok (a == b) w:=by
 have:∀ d,(Op.equalIn (d+1) t (.bool a) (.bool b)).run P w=.ok (a == b) w:=fun d=>by simp[Op.equalIn,run_underlying ht]
 exact this 9999
variable {n:Nat}{D:List Deferred}{M0:List Nat}{w0:World}{ρ:Type}
variable {l:Env}{B:List BlkD}{R:List RowD}{F:List (World→Prop)}{m:Option ρ}{r:ρ}
theorem qyx {c:Bool}(h:c=true→SXO P ro n D M0 w0 Q ops rest l B R F m r):SXO P ro n D M0 w0 Q ops rest l B R F (chk c m) r:=by
 intro hm
 cases c
 ·simp[chk] at hm
 ·exact h rfl (by simpa[chk] using hm)
theorem qwP {x:α}{k:α→Option ρ}(h:∀ y,y=x→SXO P ro n D M0 w0 Q ops rest l B R F (k y) r):SXO P ro n D M0 w0 Q ops rest l B R F (lett x k) r :=
 fun hm=>h x rfl hm
theorem qAu {c:Bool}{m1 m2:Option ρ}(h1:c=true→SXO P ro n D M0 w0 Q ops rest l B R F m1 r)(h2:c=false→SXO P ro n D M0 w0 Q ops rest l B R F m2 r) :
  SXO P ro n D M0 w0 Q ops rest l B R F (if c then m1 else m2) r:=by
 grind
theorem qp {d:Nat}{u v:Value}(hu:look l d=some u)(he:u=v)(h:SXO P ro n D M0 w0 Q ops rest ((d,v)::l) B R F m r):SXO P ro n D M0 w0 Q ops rest l B R F m r :=
 fun hm a w hf hp=>h hm a w (hf.again hu he) hp
theorem zC (h:SXQ n D M0 w0 Q .normal l B R F m r):SXO P ro n D M0 w0 Q ops [] l B R F m r :=
 fun hm a w hf hp=>h hm a w hf hp
def calm (o:Oper):Bool:=match o.op with | .defer _=>false | _=>true
def wants (ops:Array Oper)(l:Env)(o:Oper):Option Bool :=
 bif !calm o then none else
 match o.guard with
 | none=>some true
 | some (j,want) =>
  match ((ops[j]?).bind (·.dst)).bind (look l) with
  | some (.bool b)=>some (b == want)
  | some (.tuple _)=>some false
  | _=>none
theorem yN {b:Bool}(h:wants ops l o=some b):∀ c,o.op≠.defer c:=by
 grind [wants,calm]
theorem zg {b:Bool}(hf:Fr n D a l)(h:wants ops l o=some b):Region.wanted o (yielded ops a.tmps)=b:=by
 unfold wants at h
 cases hcalm:calm o with
 | false=>simp_all
 | true =>
 rw[hcalm] at h
 simp only[Bool.not_true,cond_false] at h
 unfold Region.wanted
 split at h
 ·simp_all
 ·rename_i j want hg
  rw[hg]
  simp only
  unfold yielded
  cases hd:(ops[j]?).bind (·.dst) with
  | none=>simp_all
  | some d =>
   rw[hd] at h
   simp only[Option.bind_some] at h ⊢
   cases hl:look l d with
   | none=>simp_all
   | some v =>
    rw[hl] at h
    rw[hf.val d v hl]
    cases v <;> simp_all
theorem qwU {d:Nat}(hw:wants ops l o=some false)(hdst:o.dst=some d)(hd:Nat.blt d n=true)(h:SXO P ro n D M0 w0 Q ops rest ((d,undef)::l) B R F m r) :
  SXO P ro n D M0 w0 Q ops (o::rest) l B R F m r:=by
 intro hm a w hf hp
 refine qnN (zg hf hw) ?_
 rw[hdst]
 exact h hm _ _ (hf.put hd _) hp
theorem kS (hw:wants ops l o=some true)(h:m=some r→∀ a w,Fr n D a l→Hp M0 w0 w B R F→∃ v w',(execOp a.eval o).run P w=.ok (.value v) w'∧ke ro P ops Q rest (a.put o.dst v) w') :
  SXO P ro n D M0 w0 Q ops (o::rest) l B R F m r:=by
 intro hm a w hf hp
 grind [qmm,zg,yN]
theorem qK {d:Nat}(V:Value)(hw:wants ops l o=some true)(hdst:o.dst=some d)(hd:Nat.blt d n=true)(hrun:∀ a w,Fr n D a l→Hp M0 w0 w B R F→(execOp a.eval o).run P w=.ok (.value V) w)(h:SXO P ro n D M0 w0 Q ops rest ((d,V)::l) B R F m r):SXO P ro n D M0 w0 Q ops (o::rest) l B R F m r :=
 kS hw fun hm a w hf hp=>⟨V,w,hrun a w hf hp,by rw[hdst];exact h hm _ _ (hf.put hd _) hp⟩
variable {d:Nat}{t t':TypeId}{pos:String}{af:Array Edge}{gd:Option (Nat×Bool)}
theorem qU {x:Operand}(hw:wants ops l ⟨some d,.move x,t,pos,af,gd⟩=some true)(hx:ev l x=some V)(hd:Nat.blt d n=true)(h:SXO P ro n D M0 w0 Q ops rest ((d,V)::l) B R F m r):SXO P ro n D M0 w0 Q ops (⟨some d,.move x,t,pos,af,gd⟩::rest) l B R F m r :=
 qK V hw rfl hd (fun a w hf _=>by show Result.ok (Next.value (a.eval x)) w=_;rw[hf.ev hx]) h
theorem kz {x:Operand}(hw:wants ops l ⟨some d,.assign x,t,pos,af,gd⟩=some true)(hx:ev l x=some V)(hd:Nat.blt d n=true)(h:SXO P ro n D M0 w0 Q ops rest ((d,V)::l) B R F m r):SXO P ro n D M0 w0 Q ops (⟨some d,.assign x,t,pos,af,gd⟩::rest) l B R F m r :=
 qK V hw rfl hd (fun a w hf _=>by show Result.ok (Next.value (a.eval x)) w=_;rw[hf.ev hx]) h
theorem qp7 {c x y:Operand}{b:Bool}(hw:wants ops l ⟨some d,.pick c x y,t,pos,af,gd⟩=some true)(hc:ev l c=some (.bool b))(hx:ev l (bif b then x else y)=some V)(hd:Nat.blt d n=true)(h:SXO P ro n D M0 w0 Q ops rest ((d,V)::l) B R F m r):SXO P ro n D M0 w0 Q ops (⟨some d,.pick c x y,t,pos,af,gd⟩::rest) l B R F m r :=
 qK V hw rfl hd (fun a w hf _=>by
  have h1:=hf.ev hc
  have h2:=hf.ev hx
  generalize a.eval=e at h1 h2 ⊢
  cases b <;> simp_all [execOp,go_sem,asBool]) h
theorem qkB {x y:Operand}{a:Int}(hw:wants ops l ⟨some d,.binOp .add xt x y yt,t,pos,af,gd⟩=some true)(hx:ev l x=some (.int k a))(hy:ev l y=some (.int k b))(hd:Nat.blt d n=true)(h:SXO P ro n D M0 w0 Q ops rest ((d,.int k (iadd k a b))::l) B R F m r):SXO P ro n D M0 w0 Q ops (⟨some d,.binOp .add xt x y yt,t,pos,af,gd⟩::rest) l B R F m r :=
 qK (.int k (iadd k a b)) hw rfl hd (fun a w hf _=>by
  have h1:=hf.ev hx
  have h2:=hf.ev hy
  generalize a.eval=e at h1 h2 ⊢
  simp[execOp,h1,h2,eqGuard,binOp,Op.intArith,iadd,go_sem]) h
theorem qs3 {x y:Operand}{a:Int}(hw:wants ops l ⟨some d,.binOp .sub xt x y yt,t,pos,af,gd⟩=some true)(hx:ev l x=some (.int k a))(hy:ev l y=some (.int k b))(hd:Nat.blt d n=true)(h:SXO P ro n D M0 w0 Q ops rest ((d,.int k (isub k a b))::l) B R F m r):SXO P ro n D M0 w0 Q ops (⟨some d,.binOp .sub xt x y yt,t,pos,af,gd⟩::rest) l B R F m r :=
 qK (.int k (isub k a b)) hw rfl hd (fun a w hf _=>by
  have h1:=hf.ev hx
  have h2:=hf.ev hy
  generalize a.eval=e at h1 h2 ⊢
  simp[execOp,h1,h2,eqGuard,binOp,Op.intArith,isub,go_sem]) h
theorem qyD {x y:Operand}{a:Int}(hw:wants ops l ⟨some d,.binOp .mul xt x y yt,t,pos,af,gd⟩=some true)(hx:ev l x=some (.int k a))(hy:ev l y=some (.int k b))(hd:Nat.blt d n=true)(h:SXO P ro n D M0 w0 Q ops rest ((d,.int k (imul k a b))::l) B R F m r):SXO P ro n D M0 w0 Q ops (⟨some d,.binOp .mul xt x y yt,t,pos,af,gd⟩::rest) l B R F m r :=
 qK (.int k (imul k a b)) hw rfl hd (fun a w hf _=>by
  have h1:=hf.ev hx
  have h2:=hf.ev hy
  generalize a.eval=e at h1 h2 ⊢
  simp[execOp,h1,h2,eqGuard,binOp,Op.intArith,imul,go_sem]) h
theorem qyu {x y:Operand}{a:Int}(hw:wants ops l ⟨some d,.binOp .and xt x y yt,t,pos,af,gd⟩=some true)(hx:ev l x=some (.int k a))(hy:ev l y=some (.int k b))(hd:Nat.blt d n=true)(h:SXO P ro n D M0 w0 Q ops rest ((d,.int k (iand k a b))::l) B R F m r):SXO P ro n D M0 w0 Q ops (⟨some d,.binOp .and xt x y yt,t,pos,af,gd⟩::rest) l B R F m r :=
 qK (.int k (iand k a b)) hw rfl hd (fun a w hf _=>by
  have h1:=hf.ev hx
  have h2:=hf.ev hy
  generalize a.eval=e at h1 h2 ⊢
  simp[execOp,h1,h2,eqGuard,binOp,Op.intBits,iand,go_sem]) h
theorem qAv {x y:Operand}{a:Int}(hw:wants ops l ⟨some d,.binOp .or xt x y yt,t,pos,af,gd⟩=some true)(hx:ev l x=some (.int k a))(hy:ev l y=some (.int k b))(hd:Nat.blt d n=true)(h:SXO P ro n D M0 w0 Q ops rest ((d,.int k (ior k a b))::l) B R F m r):SXO P ro n D M0 w0 Q ops (⟨some d,.binOp .or xt x y yt,t,pos,af,gd⟩::rest) l B R F m r :=
 qK (.int k (ior k a b)) hw rfl hd (fun a w hf _=>by
  have h1:=hf.ev hx
  have h2:=hf.ev hy
  generalize a.eval=e at h1 h2 ⊢
  simp[execOp,h1,h2,eqGuard,binOp,Op.intBits,ior,go_sem]) h
theorem qyJ {x y:Operand}{a:Int}(hw:wants ops l ⟨some d,.binOp .xor xt x y yt,t,pos,af,gd⟩=some true)(hx:ev l x=some (.int k a))(hy:ev l y=some (.int k b))(hd:Nat.blt d n=true)(h:SXO P ro n D M0 w0 Q ops rest ((d,.int k (ixor k a b))::l) B R F m r):SXO P ro n D M0 w0 Q ops (⟨some d,.binOp .xor xt x y yt,t,pos,af,gd⟩::rest) l B R F m r :=
 qK (.int k (ixor k a b)) hw rfl hd (fun a w hf _=>by
  have h1:=hf.ev hx
  have h2:=hf.ev hy
  generalize a.eval=e at h1 h2 ⊢
  simp[execOp,h1,h2,eqGuard,binOp,Op.intBits,ixor,go_sem]) h
theorem qom {x y:Operand}{a:Int}(hw:wants ops l ⟨some d,.binOp .lss xt x y yt,t,pos,af,gd⟩=some true)(hx:ev l x=some (.int k a))(hy:ev l y=some (.int k b))(hd:Nat.blt d n=true)(h:SXO P ro n D M0 w0 Q ops rest ((d,.bool (decide (a<b)))::l) B R F m r):SXO P ro n D M0 w0 Q ops (⟨some d,.binOp .lss xt x y yt,t,pos,af,gd⟩::rest) l B R F m r :=
 qK (.bool (decide (a<b))) hw rfl hd (fun a w hf _=>by
  have h1:=hf.ev hx
  have h2:=hf.ev hy
  generalize a.eval=e at h1 h2 ⊢
  simp[execOp,h1,h2,eqGuard,binOp,Op.intCmp,go_sem]) h
theorem qyz {x y:Operand}{a:Int}(hw:wants ops l ⟨some d,.binOp .leq xt x y yt,t,pos,af,gd⟩=some true)(hx:ev l x=some (.int k a))(hy:ev l y=some (.int k b))(hd:Nat.blt d n=true)(h:SXO P ro n D M0 w0 Q ops rest ((d,.bool (decide (a≤b)))::l) B R F m r):SXO P ro n D M0 w0 Q ops (⟨some d,.binOp .leq xt x y yt,t,pos,af,gd⟩::rest) l B R F m r :=
 qK (.bool (decide (a≤b))) hw rfl hd (fun a w hf _=>by
  have h1:=hf.ev hx
  have h2:=hf.ev hy
  generalize a.eval=e at h1 h2 ⊢
  simp[execOp,h1,h2,eqGuard,binOp,Op.intCmp,go_sem]) h
theorem qs0 {x y:Operand}{a:Int}(hw:wants ops l ⟨some d,.binOp .gtr xt x y yt,t,pos,af,gd⟩=some true)(hx:ev l x=some (.int k a))(hy:ev l y=some (.int k b))(hd:Nat.blt d n=true)(h:SXO P ro n D M0 w0 Q ops rest ((d,.bool (decide (b<a)))::l) B R F m r):SXO P ro n D M0 w0 Q ops (⟨some d,.binOp .gtr xt x y yt,t,pos,af,gd⟩::rest) l B R F m r :=
 qK (.bool (decide (b<a))) hw rfl hd (fun a w hf _=>by
  have h1:=hf.ev hx
  have h2:=hf.ev hy
  generalize a.eval=e at h1 h2 ⊢
  simp[execOp,h1,h2,eqGuard,binOp,Op.intCmp,go_sem]) h
theorem qyy {x y:Operand}{a:Int}(hw:wants ops l ⟨some d,.binOp .geq xt x y yt,t,pos,af,gd⟩=some true)(hx:ev l x=some (.int k a))(hy:ev l y=some (.int k b))(hd:Nat.blt d n=true)(h:SXO P ro n D M0 w0 Q ops rest ((d,.bool (decide (b≤a)))::l) B R F m r):SXO P ro n D M0 w0 Q ops (⟨some d,.binOp .geq xt x y yt,t,pos,af,gd⟩::rest) l B R F m r :=
 qK (.bool (decide (b≤a))) hw rfl hd (fun a w hf _=>by
  have h1:=hf.ev hx
  have h2:=hf.ev hy
  generalize a.eval=e at h1 h2 ⊢
  simp[execOp,h1,h2,eqGuard,binOp,Op.intCmp,go_sem]) h
theorem qsZ {x y:Operand}{a:Int}(hw:wants ops l ⟨some d,.binOp .eql xt x y yt,t,pos,af,gd⟩=some true)(hx:ev l x=some (.int k a))(hy:ev l y=some (.int k b))(hd:Nat.blt d n=true)(h:SXO P ro n D M0 w0 Q ops rest ((d,.bool (a == b))::l) B R F m r):SXO P ro n D M0 w0 Q ops (⟨some d,.binOp .eql xt x y yt,t,pos,af,gd⟩::rest) l B R F m r :=
 qK (.bool (a == b)) hw rfl hd (fun a w hf _=>by
  have h1:=hf.ev hx
  have h2:=hf.ev hy
  generalize a.eval=e at h1 h2 ⊢
  simp[execOp,h1,h2,eqGuard,binOp,Op.intCmp,go_sem]) h
theorem qyG {x y:Operand}{a:Int}(hw:wants ops l ⟨some d,.binOp .neq xt x y yt,t,pos,af,gd⟩=some true)(hx:ev l x=some (.int k a))(hy:ev l y=some (.int k b))(hd:Nat.blt d n=true)(h:SXO P ro n D M0 w0 Q ops rest ((d,.bool (a != b))::l) B R F m r):SXO P ro n D M0 w0 Q ops (⟨some d,.binOp .neq xt x y yt,t,pos,af,gd⟩::rest) l B R F m r :=
 qK (.bool (a != b)) hw rfl hd (fun a w hf _=>by
  have h1:=hf.ev hx
  have h2:=hf.ev hy
  generalize a.eval=e at h1 h2 ⊢
  simp[execOp,h1,h2,eqGuard,binOp,Op.intCmp,go_sem]) h
theorem qop {x y:Operand}{a:Int}(hw:wants ops l ⟨some d,.binOp .quo xt x y yt,t,pos,af,gd⟩=some true)(hx:ev l x=some (.int k a))(hy:ev l y=some (.int k b))(hd:Nat.blt d n=true)(hb:(b != 0)=true)(h:SXO P ro n D M0 w0 Q ops rest ((d,.int k (iquo k a b))::l) B R F m r):SXO P ro n D M0 w0 Q ops (⟨some d,.binOp .quo xt x y yt,t,pos,af,gd⟩::rest) l B R F m r :=
 qK (.int k (iquo k a b)) hw rfl hd (fun a w hf _=>by
  have h1:=hf.ev hx
  have h2:=hf.ev hy
  have hb':b≠0:=by grind
  generalize a.eval=e at h1 h2 ⊢
  simp[execOp,h1,h2,eqGuard,binOp,Op.intDiv,iquo,hb',go_sem]) h
theorem qyI {x y:Operand}{a:Int}(hw:wants ops l ⟨some d,.binOp .rem xt x y yt,t,pos,af,gd⟩=some true)(hx:ev l x=some (.int k a))(hy:ev l y=some (.int k b))(hd:Nat.blt d n=true)(hb:(b != 0)=true)(h:SXO P ro n D M0 w0 Q ops rest ((d,.int k (irem a b))::l) B R F m r):SXO P ro n D M0 w0 Q ops (⟨some d,.binOp .rem xt x y yt,t,pos,af,gd⟩::rest) l B R F m r :=
 qK (.int k (irem a b)) hw rfl hd (fun a w hf _=>by
  have h1:=hf.ev hx
  have h2:=hf.ev hy
  have hb':b≠0:=by grind
  generalize a.eval=e at h1 h2 ⊢
  simp[execOp,h1,h2,eqGuard,binOp,Op.intDiv,irem,hb',go_sem]) h
theorem qhL {x y:Operand}{a:Int}(hw:wants ops l ⟨some d,.binOp .shl xt x y yt,t,pos,af,gd⟩=some true)(hx:ev l x=some (.int k a))(hy:ev l y=some (.int k' b))(hd:Nat.blt d n=true)(hb:decide (0≤b)=true)(h:SXO P ro n D M0 w0 Q ops rest ((d,.int k (ishl k a b))::l) B R F m r):SXO P ro n D M0 w0 Q ops (⟨some d,.binOp .shl xt x y yt,t,pos,af,gd⟩::rest) l B R F m r :=
 qK (.int k (ishl k a b)) hw rfl hd (fun a w hf _=>by
  have h1:=hf.ev hx
  have h2:=hf.ev hy
  have hb':¬ b<0:=by grind
  generalize a.eval=e at h1 h2 ⊢
  simp[execOp,h1,h2,eqGuard,binOp,Op.shift,ishl,hb',go_sem]) h
theorem qjn {x y:Operand}{a:Int}(hw:wants ops l ⟨some d,.binOp .shr xt x y yt,t,pos,af,gd⟩=some true)(hx:ev l x=some (.int k a))(hy:ev l y=some (.int k' b))(hd:Nat.blt d n=true)(hb:decide (0≤b)=true)(h:SXO P ro n D M0 w0 Q ops rest ((d,.int k (ishr k a b))::l) B R F m r):SXO P ro n D M0 w0 Q ops (⟨some d,.binOp .shr xt x y yt,t,pos,af,gd⟩::rest) l B R F m r :=
 qK (.int k (ishr k a b)) hw rfl hd (fun a w hf _=>by
  have h1:=hf.ev hx
  have h2:=hf.ev hy
  have hb':¬ b<0:=by grind
  generalize a.eval=e at h1 h2 ⊢
  simp[execOp,h1,h2,eqGuard,binOp,Op.shift,ishr,hb',go_sem]) h
theorem qyE {x y:Operand}{p q':Bool}(hw:wants ops l ⟨some d,.binOp .neq xt x y yt,t,pos,af,gd⟩=some true)(ht:P.underlying xt=some .bool)(hx:ev l x=some (.bool p))(hy:ev l y=some (.bool q'))(hd:Nat.blt d n=true)(h:SXO P ro n D M0 w0 Q ops rest ((d,.bool (p != q'))::l) B R F m r):SXO P ro n D M0 w0 Q ops (⟨some d,.binOp .neq xt x y yt,t,pos,af,gd⟩::rest) l B R F m r :=
 qK (.bool (p != q')) hw rfl hd (fun a w hf _=>by
  have h1:=hf.ev hx
  have h2:=hf.ev hy
  have he:=qlC ht p q' w
  generalize a.eval=e at h1 h2 ⊢
  generalize hq:Op.equal xt (.bool p) (.bool q')=q at he
  simp[execOp,h1,h2,eqGuard,binOp,hq,he,bne,go_sem]) h
theorem qyH {x:Operand}{b:Bool}(hw:wants ops l ⟨some d,.unOp .not xt x,t,pos,af,gd⟩=some true)(hx:ev l x=some (.bool b))(hd:Nat.blt d n=true)(h:SXO P ro n D M0 w0 Q ops rest ((d,.bool (!b))::l) B R F m r):SXO P ro n D M0 w0 Q ops (⟨some d,.unOp .not xt x,t,pos,af,gd⟩::rest) l B R F m r :=
 qK (.bool (!b)) hw rfl hd (fun a w hf _=>by
  have h1:=hf.ev hx
  generalize a.eval=e at h1 ⊢
  simp[execOp,h1,Op.unary,go_sem]) h
theorem qyF {x:Operand}(hw:wants ops l ⟨some d,.unOp .neg xt x,t,pos,af,gd⟩=some true)(hx:ev l x=some (.int k b))(hd:Nat.blt d n=true)(h:SXO P ro n D M0 w0 Q ops rest ((d,.int k (isub k 0 b))::l) B R F m r):SXO P ro n D M0 w0 Q ops (⟨some d,.unOp .neg xt x,t,pos,af,gd⟩::rest) l B R F m r :=
 qK (.int k (isub k 0 b)) hw rfl hd (fun a w hf _=>by
  have h1:=hf.ev hx
  generalize a.eval=e at h1 ⊢
  simp[execOp,h1,Op.unary,Op.intArith,isub,go_sem]) h
theorem qwI {x:Operand}{ds:TypeDesc}(hw:wants ops l ⟨some d,.convert s t' x,t,pos,af,gd⟩=some true)(hs:P.underlying s=some ds)(ht:P.underlying t'=some (.int k))(hx:ev l x=some (.int k' b))(hd:Nat.blt d n=true)(h:SXO P ro n D M0 w0 Q ops rest ((d,.int k (iconv k b))::l) B R F m r):SXO P ro n D M0 w0 Q ops (⟨some d,.convert s t' x,t,pos,af,gd⟩::rest) l B R F m r :=
 qK (.int k (iconv k b)) hw rfl hd (fun a w hf _=>by
  have h1:=hf.ev hx
  generalize a.eval=e at h1 ⊢
  simp[execOp,h1,convert,run_underlying ht,run_underlying hs,Conv.intToInt,iconv,go_sem]) h
theorem qol {x:Operand}{e':TypeId}{ao:Option Addr}{k c:Nat}(hw:wants ops l ⟨some d,.call ⟨.builtin .len,#[x],#[s]⟩,t,pos,af,gd⟩=some true)(ht:P.underlying s=some (.slice e'))(hx:ev l x=some (.slice ao k c))(hd:Nat.blt d n=true)(h:SXO P ro n D M0 w0 Q ops rest ((d,.int .i64 (k:Int))::l) B R F m r):SXO P ro n D M0 w0 Q ops (⟨some d,.call ⟨.builtin .len,#[x],#[s]⟩,t,pos,af,gd⟩::rest) l B R F m r :=
 qK (.int .i64 (k:Int)) hw rfl hd (fun a w hf _=>by
  have h1:=hf.ev hx
  generalize a.eval=e at h1 ⊢
  simp[h1,Builtin.len_,run_underlying ht,goInt,go_sem]) h
theorem qak {x:Operand}{vs:Array Value}(hw:wants ops l ⟨some d,.extract x i,t,pos,af,gd⟩=some true)(hx:ev l x=some (.tuple vs))(hv:vs[i]?=some V)(hd:Nat.blt d n=true)(h:SXO P ro n D M0 w0 Q ops rest ((d,V)::l) B R F m r):SXO P ro n D M0 w0 Q ops (⟨some d,.extract x i,t,pos,af,gd⟩::rest) l B R F m r :=
 qK V hw rfl hd (fun a w hf _=>by
  have h1:=hf.ev hx
  generalize a.eval=e at h1 ⊢
  simp[execOp,h1,Instr.extract,hv,go_sem]) h
def isAggD:TypeDesc→Bool | .struct _ | .array _ _=>true | _=>false
class TyF (P:Program) (t:TypeId) (agg:outParam Bool) (z:outParam Value) (size bytes:outParam Nat):Prop where
 und:∃ d,P.underlying t=some d∧isAggD d=agg
 inf:∃ i,P.info? t=some i∧i.zero=some z∧i.size=size∧i.bytes=bytes
theorem TyF.of {agg:Bool}{z:Value}{size bytes:Nat}(h:(P.underlying t).map isAggD=some agg:=by kernel_rfl)(h':(P.info? t).map (fun i=>(i.zero,i.size,i.bytes))=some (some z,size,bytes):=by kernel_rfl):TyF P t agg z size bytes:=by
 obtain ⟨d,hd,hda⟩:=qCD.1 h
 exact ⟨⟨d,hd,hda⟩,info_parts h'⟩
class FdF (P:Program) (s:TypeId) (i:Nat) (off:outParam Nat):Prop where
 out:∃ fs f,P.underlying s=some (.struct fs)∧fs[i]?=some f∧f.offset=off∧∃ j,P.info? f.type=some j∧j.size≠0
theorem FdF.of (h:(match P.underlying s with
  | some (.struct fs)=>(match fs[i]? with | some f=>f.offset == off && (match P.info? f.type with | some j=>j.size != 0 | none=>false) | none=>false)
  | _=>false)=true:=by kernel_rfl):FdF P s i off:=by
 split at h
 ·rename_i fs hfs
  split at h
  ·rename_i f hf
   simp only[qB6,beq_iff_eq] at h
   obtain ⟨h1,h2⟩:=h
   split at h2
   ·rename_i j hj
    exact ⟨fs,f,hfs,hf,h1,j,hj,by simpa using h2⟩
   ·simp at h2
  ·simp at h
 ·simp at h
theorem TyF.run_isAgg {agg:Bool}{z:Value}{size bytes:Nat}(h:TyF P t agg z size bytes)(w:World):(isAgg t).run P w=.ok agg w:=by
 obtain ⟨d,hd,hda⟩:=h.und
 subst hda
 cases d <;> simp[isAgg,run_underlying hd,isAggD]
theorem TyF.run_size {agg:Bool}{z:Value}{size bytes:Nat}(h:TyF P t agg z size bytes)(w:World):(Go.sizeOf t).run P w=.ok size w:=by
 obtain ⟨i,hi,h1,h2,h3⟩:=h.inf
 simp[Go.sizeOf,typeInfo,hi,h2]
theorem TyF.run_zero {agg:Bool}{z:Value}{size bytes:Nat}(h:TyF P t agg z size bytes)(w:World):(zeroValue t).run P w=.ok z w:=by
 obtain ⟨i,hi,h1,h2,h3⟩:=h.inf
 simp[zeroValue,typeInfo,hi,h1]
def yZ (b o:Nat)(cs:List Value)(w:World):Prop:=∀ j u,cs[j]?=some u→w.cell? ⟨b,o+j,none⟩=some u
theorem qb7 (b o n:Nat):(⟨b,o,none⟩:Addr).add n=⟨b,o+n,none⟩:=by unfold Addr.add;split <;> simp_all
theorem qdx (a:Addr)(n:Nat)(h:a.spot=none):a.add n=⟨a.block,a.off+n,none⟩:=by
 obtain ⟨b,o,s⟩:=a;subst h;exact qb7 b o n
theorem qaj {agg:Bool}{z:Value}{size bytes:Nat}(ht:TyF P t agg z size bytes){b o:Nat}{cs:List Value}(hc:yZ b o cs w)(hl:cs.length=size)(hV:V=if agg then .agg cs.toArray else cs.getD 0 undef)(hs:agg=false→size=1) :
  (loadVar t ⟨b,o,none⟩).run P w=.ok V w:=by
 subst hV
 cases agg
 ·have h1:=hs rfl
  have hlen:cs.length=1:=by omega
  obtain ⟨u,rfl⟩:=List.length_eq_one_iff.1 hlen
  have:=hc 0 u rfl
  simp[loadVar,ht.run_isAgg w,load,Sem.run] at this ⊢
  simp[this]
 ·have:=run_loadCells_list (P:=P) w ⟨b,o,none⟩ cs (fun j v hj=>by rw[qb7];exact hc j v hj)
  rw[hl] at this
  simp[loadVar,ht.run_isAgg w,ht.run_size w,this]
def qdX (cs:List Value):Bool:=cs.all (·.oneCell')
theorem qje {agg:Bool}{z:Value}{size bytes:Nat}(ht:TyF P t agg z size bytes){g o:Nat}{e:TypeId}{cur:Array Value}(hg:w.heap[g]?=some (.cells cur e (0,0)))(hl:V.cells.size=size)(ho:o+V.cells.size≤cur.size)(h1:qdX V.cells.toList=true) :
  (storeVar t ⟨g,o,none⟩ V).run P w=.ok () (w.setRow g (cur.toList.take o++V.cells.toList++cur.toList.drop (o+V.cells.size)).toArray):=by
 have h1':∀ v∈V.cells.toList,v.oneCell'=true:=qBX.1 h1
 have hst:=run_storeCells_at P g o e V.cells.toList 0 cur w hg (by simpa using ho) h1'
 simp only[Nat.add_zero,Array.length_toList] at hst
 have:¬ V.cells.size≠size:=by simp[hl]
 simp[storeVar,ht.run_size w,this,hst]
theorem RowD.owns_lt {r:RowD}(h:r.owns w):∀ g∈r.blocks,g<w.heap.size:=by
 intro g hg
 rcases qBn.1 hg with h1 | h1
 ·exact (h.1.lt g (qCW.1 h1)).2
 ·obtain ⟨f,hf,hf1⟩:=List.mem_filterMap.1 h1
  exact ((h.2 f hf).lt g hf1).2
theorem qps (hb:∀ b∈B,b.is w)(hr:∀ r∈R,r.owns w):∀ g∈muts B R,g<w.heap.size:=by
 intro g hg
 rcases qBn.1 hg with h | h
 ·obtain ⟨b,hbm,rfl⟩:=qBK.1 h
  exact (Array.getElem?_eq_some_iff.1 (hb b hbm)).1
 ·obtain ⟨r,hrm,hr1⟩:=qCa.1 h
  exact RowD.owns_lt (hr r hrm) g hr1
theorem Hp.lt (h:Hp M0 w0 w B R F):∀ g∈muts B R,g<w.heap.size:=qps h.blk h.rows
theorem qbI {b:BlkD}(h:b.is w)(hk:Keeps M w w')(hn:b.g∉M):b.is w':=by
 have hlt:=(Array.getElem?_eq_some_iff.1 h).1
 exact (hk.block b.g hlt hn).trans h
theorem qpN {r:RowD}(h:r.own w)(hk:Keeps M w w')(hn:∀ g,r.v.ownBlock=some g→g∉M):r.own w':=by
 refine ⟨h.1,?_⟩
 rcases h.2 with hn' | ⟨g,cap,cur,hv,hb,hgg,rest⟩
 ·exact .inl hn'
 ·refine .inr ⟨g,cap,cur,hv,hb,?_,rest⟩
  rw[hk.block g (Array.getElem?_eq_some_iff.1 hgg).1 (hn g (by rw[hv];rfl))]
  exact hgg
theorem qtQ {r:RowF}(h:r.own w)(hk:Keeps M w w')(hn:∀ g,r.v.ownBlock=some g→g∉M):r.own w' :=
 qpN (r:=⟨r.v,r.e,r.size,r.n,r.cs⟩) h hk hn
theorem v6 {r:RowD}(h:r.owns w)(hk:Keeps M w w')(hn:∀ g∈r.blocks,g∉M):r.owns w' :=
 ⟨qpN h.1 hk fun g hg=>hn g (RowD.blocks_v hg),fun f hf=>qtQ (h.2 f hf) hk fun g hg=>hn g (qBn.2 (.inr (List.mem_filterMap.2 ⟨f,hf,hg⟩)))⟩
theorem Keeps.wider {M':List Nat}(h:Keeps M w w')(hM:∀ k∈M,k∈M'):Keeps M' w w' :=
 ⟨h.os,h.tape,h.output,h.size,fun k hk hn=>h.block k hk (fun hm=>hn (hM k hm)),h.drawn⟩
theorem Hp.step (h:Hp M0 w0 w B R F)(hk:Keeps [] w w'):Hp M0 w0 w' B R F where
 keep:=h.keep.trans hk (fun _ h=>h) (by simp)
 blk:=fun b hb=>qbI (h.blk b hb) hk (by simp)
 rows:=fun r hr=>v6 (h.rows r hr) hk (by simp)
 nodup:=h.nodup
 fresh:=h.fresh
 per:=fun φ hφ=>(h.per φ hφ).step (hk.wider (by simp)) (fun k hk=>.inl hk)
variable {R':List RowD}
theorem Hp.turn {B':List BlkD}(h:Hp M0 w0 w B R F)(S:List Nat)(hk:Keeps S w w')(hS:∀ k∈S,k∈muts B R)(hb:∀ b∈B',b.is w')(hr:∀ r∈R',r.owns w')(hnd:(muts B' R').Nodup)(hM:∀ g∈muts B' R',g∈muts B R∨w.heap.size≤g):Hp M0 w0 w' B' R' F where
 keep:=h.keep.trans hk (fun _ h=>h) (fun k hk=>h.fresh k (hS k hk))
 blk:=hb
 rows:=hr
 nodup:=hnd
 fresh:=fun g hg=>by
  rcases hM g hg with h1 | h1
  ·exact h.fresh g h1
  ·exact .inr (qB5 h.keep.size h1)
 per:=fun φ hφ=>(h.per φ hφ).step (hk.wider hS) hM
theorem Hp.alloc (h:Hp M0 w0 w B R F)(cs:List Value)(e:TypeId):Hp M0 w0 (w.alloc (.cells cs.toArray e)) (⟨w.heap.size,e,cs⟩::B) R F:=by
 have hk:=Keeps.alloc [] w (.cells cs.toArray e)
 refine h.turn [] hk (by simp) (fun b hb=>?_) (fun r hr=>v6 (h.rows r hr) hk (by simp)) ?_ ?_
 ·rcases qBp.1 hb with rfl | hb
  ·exact heap_alloc_new w _
  ·exact qbI (h.blk b hb) hk (by simp)
 ·simp only[muts,qB2,qCb,List.nodup_cons]
  exact ⟨fun hm=>by have:=h.lt _ hm;omega,h.nodup⟩
 ·intro g hg
  simp only[muts,qB2,qCb,qBp] at hg
  rcases hg with rfl | hg
  ·exact .inr (qBw _)
  ·exact .inl hg
theorem qde {r:RowD}:∀ g,g∈muts B (r::R)↔g∈r.blocks∨g∈muts B R:=by
 intro g
 simp only[muts,qBn,qBG]
 constructor
 ·rintro (h | h | h)
  ·exact .inr (.inl h)
  ·exact .inl h
  ·exact .inr (.inr h)
 ·rintro (h | h | h)
  ·exact .inr (.inl h)
  ·exact .inl h
  ·exact .inr (.inr h)
theorem qf3 {r:RowD}(hi:r.ins=[]):∀ g,g∈muts B (r::R)↔r.v.ownBlock=some g∨g∈muts B R:=by
 intro g
 rw[qde,RowD.blocks_one hi,qCW]
theorem qkr {r:RowD}(h:(muts B R).Nodup)(hb:r.blocks.Nodup)(hn:∀ g∈r.blocks,g∉muts B R):(muts B (r::R)).Nodup:=by
 simp only[muts,qBG] at h hn ⊢
 rw[qB3] at h ⊢
 refine ⟨h.1,qB3.2 ⟨hb,h.2.1,fun a ha b hb hab=>?_⟩,fun a ha b hb hab=>?_⟩
 ·subst hab
  exact hn a ha (qBn.2 (.inr hb))
 ·subst hab
  rcases qBn.1 hb with hb | hb
  ·exact hn a hb (qBn.2 (.inl ha))
  ·exact h.2.2 a ha a hb rfl
theorem qfj {r:RowD}(hi:r.ins=[])(h:(muts B R).Nodup)(hn:∀ g,r.v.ownBlock=some g→g∉muts B R):(muts B (r::R)).Nodup:=by
 refine qkr h ?_ fun g hg=>hn g ?_
 ·rw[RowD.blocks_one hi];cases r.v.ownBlock <;> simp
 ·rw[RowD.blocks_one hi,qCW] at hg;exact hg
theorem Hp.addRow {r:RowD}(h:Hp M0 w0 w B R F)(hk:Keeps [] w w')(hr:r.own w')(hf:∀ g,r.v.ownBlock=some g→w.heap.size≤g)(hi:r.ins=[]:=by rfl):Hp M0 w0 w' B (r::R) F:=by
 refine h.turn [] hk (by simp) (fun b hb=>qbI (h.blk b hb) hk (by simp)) (fun r' hr'=>?_) (qfj hi h.nodup fun g hg hm=>?_) ?_
 ·rcases qBp.1 hr' with rfl | hr'
  ·exact RowD.owns_one hr hi
  ·exact v6 (h.rows r' hr') hk (by simp)
 ·have:=h.lt g hm;have:=hf g hg;omega
 ·intro g hg
  rcases (qf3 hi g).1 hg with h1 | h1
  ·exact .inr (hf g h1)
  ·exact .inl h1
theorem qks {β:Type}{f:α→List β}(h:xs.Sublist ys):(xs.flatMap f).Sublist (ys.flatMap f):=by
 induction h with
 | slnil=>exact qBL _
 | cons a _ ih=>rw[qBG];exact ih.trans (List.sublist_append_right _ _)
 | cons_cons a _ ih=>rw[qBG,qBG];exact (qBL _).append ih
theorem Hp.weaken {B' : List BlkD}{F' : List (World → Prop)}(h : Hp M0 w0 w B R F)(hB : B'.Sublist B)(hR : R'.Sublist R)(hF : ∀ φ ∈ F', φ ∈ F) : Hp M0 w0 w B' R' F' := by
  have hm : (muts B' R').Sublist (muts B R) := (hB.map _).append (qks hR)
  exact { keep := h.keep, blk := fun b hb => h.blk b (hB.subset hb), rows := fun r hr => h.rows r (hR.subset hr), nodup := h.nodup.sublist hm, fresh := fun g hg => h.fresh g (hm.subset hg),
          per := fun φ hφ => (h.per φ (hF φ hφ)).less (fun k hk => hm.subset hk) }
theorem qja {b b':BlkD}(hi:B[i]?=some b)(hg:b'.g=b.g):muts (B.set i b') R=muts B R:=by
 unfold muts
 congr 1
 rw[List.map_set,hg]
 apply List.ext_getElem?
 intro j
 rw[qDg]
 split
 ·rename_i hij;subst hij;split
  ·simp[hi]
  ·rename_i h2;simp at h2;simp[h2]
 ·rfl
theorem qmN (h:(muts B R).Nodup){b b':BlkD}(hi:B[i]?=some b)(hj:B[j]?=some b')(hg:b.g=b'.g):i=j:=by
 have hnd:(B.map (·.g)).Nodup:=(qB3.1 h).1
 have h1:(B.map (·.g))[i]?=some b.g:=by simp[hi]
 have h2:(B.map (·.g))[j]?=some b.g:=by simp[hj,hg]
 have hi':=(qBC.1 h1).1
 exact (List.getElem?_inj hi' hnd).1 (h1.trans h2.symm)
theorem Hp.setBlk {g:Nat}{e:TypeId}{cs cs':List Value}(h:Hp M0 w0 w B R F)(hi:B[i]?=some ⟨g,e,cs⟩):Hp M0 w0 (w.setRow g cs'.toArray) (B.set i ⟨g,e,cs'⟩) R F:=by
 have hm:(⟨g,e,cs⟩:BlkD)∈B:=qBl hi
 have hgm:g∈muts B R:=qBn.2 (.inl (qBK.2 ⟨_,hm,rfl⟩))
 have hk:Keeps [g] w (w.setRow g cs'.toArray):=⟨rfl,rfl,rfl,by simp,fun k _ hn=>setRow_other w g k _ (fun e=>hn (by simp[e])),fun _=>qBw _⟩
 have hmu:=qja (R:=R) (b':=⟨g,e,cs'⟩) hi rfl
 refine h.turn [g] hk (by simpa using hgm) (fun b hb=>?_) (fun r hr=>v6 (h.rows r hr) hk fun g' hg'=>?_) (hmu▸h.nodup) (fun k hk=>.inl (hmu▸hk))
 ·obtain ⟨j,hj⟩:=List.getElem?_of_mem hb
  rw[qDg] at hj
  split at hj
  ·split at hj
   ·simp at hj;subst hj
    have:=h.blk _ hm
    exact setRow_heap w g _ _ e _ this
   ·simp at hj
  ·rename_i hij
   refine qbI (h.blk b (qBl hj)) hk (fun hg=>?_)
   simp only[qBD] at hg
   exact hij (qmN h.nodup hi hj hg.symm)
 ·intro hgg
  simp only[qBD] at hgg
  subst hgg
  have hnd:=(qB3.1 h.nodup).2.2
  exact hnd g' (qBK.2 ⟨_,hm,rfl⟩) g' (qCa.2 ⟨r,hr,hg'⟩) rfl
theorem jJ {size m:Nat}{u:Value}{news:List Value}(h:Cells u m size news w):(Builtin.firstCells size m u).run P w=.ok news.toArray w:=by
 obtain ⟨⟨a,cap,rfl,_,_,hs,hc⟩,hl⟩:=h
 cases a with
 | some ad =>
  refine run_firstCells_some w size m ad m cap news hl fun j u hj=>?_
  obtain ⟨ad',h1,h2⟩:=hc j u hj
  simp at h1;subst h1
  rw[qdx _ _ ((hs _ rfl).resolve_left (by grind))]
  omega
 | none =>
  have:news=[]:=by
   cases news with
   | nil=>rfl
   | cons u r=>obtain ⟨ad,h1,_⟩:=hc 0 u rfl;grind
  subst this
  rfl
theorem Cells.heap {v:Value}{size:Nat}{cs:List Value}(h:Cells v n size cs w)(hh:w'.heap=w.heap):Cells v n size cs w':=by
 obtain ⟨⟨a,cap,h1,h2,h3,h4,h5⟩,hl⟩:=h
 exact ⟨⟨a,cap,h1,h2,h3,h4,fun j u hj=>by grind [World.cell?]⟩,hl⟩
theorem qaG {need cap bytes:Nat}(hlt:cap<need)(h:need*bytes≤140737488355328):Builtin.nextslicecap need cap*bytes≤281474976710656 :=
 growslice_fits hlt h
theorem qkd (w:World){ty e:TypeId}{agg:Bool}{z:Value}{size bytes:Nat}(ht:P.underlying t=some (.slice e))(hT:TyF P e agg z size bytes)(hzs:z.cells.size=size){v:Value}{xs:List Value}(hown:w.ownsRow 0 e size v n xs){u:Value}{m:Nat}{news:List Value}(hu:Cells u m size news w)(h1:qdX news=true)(h63:n+m≤maxLen)(hbytes:(n+m)*bytes≤140737488355328) :
  ∃ v' w',(Builtin.append_ #[t,t] ty #[v,u]).run P w=.ok v' w'∧w'.ownsRow 0 e size v' (n+m) (xs++news) ∧
   ((v'.ownBlock=v.ownBlock∧Keeps v.ownBlock.toList w w')∨(Keeps [] w w'∧∀ g,v'.ownBlock=some g→w.heap.size≤g)):=by
 obtain ⟨i,hi,hz,hsz,hby⟩:=hT.inf
 subst hsz;subst hby
 have h1':∀ v∈news,v.oneCell'=true:=qBX.1 h1
 have hsmall:n+m≤9223372036854775807:=by simp only[maxLen] at h63;omega
 have hlen:(xs++news).length=(n+m)*i.size:=by rw[qBr,hown.1,hu.len,qB4]
 have hlo:(Builtin.lenOf u)=pure m:=by
  obtain ⟨⟨a,cap,rfl,_⟩,_⟩:=hu;rfl
 have hfc:∀ w',w'.heap=w.heap→(Builtin.firstCells i.size m u).run P w'=.ok news.toArray w':=fun w' hh=>jJ (hu.heap hh)
 have hfo:∀ w',w'.heap=w.heap→(Builtin.firstCells i.size n v).run P w'=.ok xs.toArray w':=fun w' hh=>jJ ((zd hown).heap hh)
 have grown:∀ (old:Nat),old<n+m →
   (w.drew.alloc (.cells (xs.toArray++news.toArray++Builtin.zeroCells z.cells (grownCap w (n+m) old e-(n+m))) e)).ownsRow 0 e i.size
    (.slice (some ⟨w.heap.size,0,none⟩) (n+m) (grownCap w (n+m) old e)) (n+m) (xs++news) ∧
   Keeps [] w (w.drew.alloc (.cells (xs.toArray++news.toArray++Builtin.zeroCells z.cells (grownCap w (n+m) old e-(n+m))) e)):=by
  intro old ho
  have hge:=grownCap_ge w (n+m) old e
  have hcm:grownCap w (n+m) old e≤maxLen:=grownCap_le_maxLen w (n+m) old e h63
  refine ⟨⟨hlen,.inr ⟨w.heap.size,_,_,rfl,qBH _,heap_alloc_new w.drew _,hge,hcm,?_,?_⟩⟩,⟨rfl,rfl,rfl,by simp,fun k hk _=>Go.RowKit.Below.heap_alloc w.drew _ k hk,fun _=>Nat.le_succ _⟩⟩
  ·simp only[Array.size_append,qCg,size_zeroCells,hzs,hown.1,hu.len,← qB4]
   congr 1
   omega
  ·simp only[Array.toList_append,qBt]
   rw[← qBt,← hlen]
   exact qCt
 rcases hown.2 with ⟨rfl,rfl⟩ | ⟨g,cap,cur,rfl,hbg,hg,hnc,hcm,hcs,htake⟩
 ·have hx:xs=[]:=qBO (by simpa using hown.1)
  subst hx
  by_cases hm:m=0
  ·subst hm
   have hn:news=[]:=qBO (by simpa using hu.len)
   subst hn
   refine ⟨.slice none 0 0,w,?_,World.ownsRow_nil w 0 e i.size,.inr ⟨Keeps.refl _ _,by simp[Value.ownBlock]⟩⟩
   have:=hfc w rfl
   simp[Builtin.append_,run_underlying ht,Go.sizeOf,typeInfo,hi,hlo,this]
  ·have hgr:=grown 0 (by omega)
   have h48:=qaG (need:=0+m) (cap:=0) (by omega) hbytes
   simp only[Nat.zero_add,qBF,Array.empty_append] at hgr h48 hbytes ⊢
   refine ⟨_,_,?_,hgr.1,.inr ⟨hgr.2,by simp[Value.ownBlock]⟩⟩
   have hf:=hfc w.drew rfl
   have hf0:(Builtin.firstCells i.size 0 (.slice none 0 0)).run P w.drew=.ok #[] w.drew:=hfo w.drew rfl
   have hm':¬ m≤0:=by omega
   have hmx:¬ (9223372036854775807:Int)<(m:Int):=by omega
   have h48':¬ Builtin.nextslicecap m 0*i.bytes > 2^48:=by simpa using h48
   simp[Builtin.append_,run_underlying ht,Go.sizeOf,typeInfo,zeroValue,hi,hz,hlo,hm,hmx,h48',Question.forced,hf,hf0,newRow,grownCap]
 ·by_cases hroom:n+m≤cap
  ·have hfit:n*i.size+news.length≤cur.size:=by rw[hu.len,hcs,← qB4];exact qBN _ hroom
   have hst:=run_storeCells_at P g (n*i.size) e news 0 cur w hg (by simpa using hfit) h1'
   simp only[Nat.add_zero] at hst
   have hf:=hfc w rfl
   refine ⟨.slice (some ⟨g,0,none⟩) (n+m) cap,w.setRow g (cur.toList.take (n*i.size)++news++cur.toList.drop (n*i.size+news.length)).toArray,?_,⟨hlen,.inr ⟨g,cap,_,rfl,hbg,setRow_heap w g cur _ e _ hg,hroom,hcm,?_,?_⟩⟩,.inl ⟨rfl,⟨rfl,rfl,rfl,by simp,fun k _ hk=>setRow_other w g k _ (fun e=>hk (by simp[Value.ownBlock,e])),fun _=>qBw _⟩⟩⟩
   ·simp[Builtin.append_,run_underlying ht,Go.sizeOf,typeInfo,hi,hlo,hroom,hf,Addr.add_lit,hst]
   ·simp only[qCg,qBr,qB7,qCc,Array.length_toList]
    omega
   ·rw[htake,← hlen]
    exact qCt
  ·have hgr:=grown cap (by omega)
   refine ⟨_,_,?_,hgr.1,.inr ⟨hgr.2,by simp[Value.ownBlock]⟩⟩
   have hf:=hfc w.drew rfl
   have hf0:=hfo w.drew rfl
   have hmx:¬ (9223372036854775807:Int)<(n:Int)+(m:Int):=by omega
   have h48':¬ Builtin.nextslicecap (n+m) cap*i.bytes > 2^48:=by simpa using qaG (by omega) hbytes
   simp[Builtin.append_,run_underlying ht,Go.sizeOf,typeInfo,zeroValue,hi,hz,hlo,hroom,hmx,h48',Question.forced,hf,hf0,newRow,grownCap]
   simp only[← Array.append_assoc,List.append_toArray]
theorem qed {R:List α}{r:α}(hi:R[i]?=some r):∃ R1 R2,R=R1++r::R2∧R.eraseIdx i=R1++R2:=by
 obtain ⟨hlt,rfl⟩:=qBC.1 hi
 refine ⟨R.take i,R.drop (i+1),?_,List.eraseIdx_eq_take_drop_succ R i⟩
 simp
theorem qpt {R1 R2:List RowD}{r:RowD}:(muts B (R1++r::R2)).Perm (muts B (r::(R1++R2))):=by
 grind [muts]
theorem qly {r:RowD}(hnd:(muts B (r::R)).Nodup):∀ g∈r.blocks,g∉muts B R:=by
 intro g hg hm
 unfold muts at hnd hm
 grind
theorem Hp.swapRow {r r':RowD}(h:Hp M0 w0 w B R F)(hi:R[i]?=some r)(hr':r'.own w')(hk:(r'.v.ownBlock=r.v.ownBlock∧Keeps r.v.ownBlock.toList w w')∨(Keeps [] w w'∧∀ g,r'.v.ownBlock=some g→w.heap.size≤g))(hin:r'.ins=[]:=by rfl) :
  Hp M0 w0 w' B (r'::R.eraseIdx i) F:=by
 obtain ⟨R1,R2,rfl,he⟩:=qed hi
 rw[he]
 have hp:=qpt (B:=B) (R1:=R1) (R2:=R2) (r:=r)
 have hnd:(muts B (r::(R1++R2))).Nodup:=hp.nodup_iff.1 h.nodup
 have hsub:(muts B (R1++R2)).Sublist (muts B (r::(R1++R2))):=by
  grind [muts]
 have hnd':(muts B (R1++R2)).Nodup:=hnd.sublist hsub
 have hrow:∀ r0∈R1++R2,r0∈R1++r::R2:=fun r0 h0=>by
  grind
 have hnot:∀ g,r.v.ownBlock=some g→g∉muts B (R1++R2):=fun g hg=>qly hnd g (RowD.blocks_v hg)
 rcases hk with ⟨hv,hk⟩ | ⟨hk,hf⟩
 ·refine h.turn r.v.ownBlock.toList hk (fun k hk'=>?_) (fun b hb=>qbI (h.blk b hb) hk fun hm=>?_) (fun r0 h0=>?_) (qfj hin hnd' fun g hg=>hnot g (hv▸hg)) (fun g hg=>?_)
  ·grind [qde,RowD.blocks_v]
  ·rw[qCW] at hm
   exact hnot _ hm (qBn.2 (.inl (qBK.2 ⟨b,hb,rfl⟩)))
  ·rcases qBp.1 h0 with rfl | h0
   ·grind [RowD.owns_one]
   ·refine v6 (h.rows r0 (hrow r0 h0)) hk fun g hg hm=>?_
    rw[qCW] at hm
    exact hnot _ hm (qBn.2 (.inr (qCa.2 ⟨r0,h0,hg⟩)))
  grind [qf3,qde,RowD.blocks_v]
 ·refine h.turn [] hk (by simp) (fun b hb=>qbI (h.blk b hb) hk (by simp)) (fun r0 h0=>?_) (qfj hin hnd' fun g hg hm=>?_) (fun g hg=>?_)
  ·rcases qBp.1 h0 with rfl | h0
   ·grind [RowD.owns_one]
   ·exact v6 (h.rows r0 (hrow r0 h0)) hk (by simp)
  ·have h1:=h.lt g (hp.mem_iff.2 ((qde g).2 (.inr hm)))
   grind
  grind [qf3]
theorem Hp.addFact (h:Hp M0 w0 w B R F)(hφ:Nec w (muts B R) φ):Hp M0 w0 w B R (φ::F) :=
 { h with per:=fun ψ hψ=>by rcases qBp.1 hψ with rfl | hψ;exact hφ;exact h.per ψ hψ }
theorem Cells.keeps {v:Value}{size:Nat}{cs:List Value}(h:Cells v n size cs w)(hk:Keeps M w w')(hn:∀ g,v.ownBlock=some g→g∉M):Cells v n size cs w':=by
 obtain ⟨⟨a,cap,rfl,h2,h3,h4,h5⟩,hl⟩:=h
 refine ⟨⟨a,cap,rfl,h2,h3,h4,fun j u hj=>?_⟩,hl⟩
 obtain ⟨ad,rfl,k2⟩:=h5 j u hj
 refine ⟨ad,rfl,?_⟩
 rw[← k2]
 refine World.cell?_of_block (hk.block _ (World.block_lt_of_cell? w _ k2) (hn _ rfl))
theorem Hp.freeze {r:RowD}(h:Hp M0 w0 w B R F)(hi:R[i]?=some r):Hp M0 w0 w B (R.eraseIdx i) (Cells r.v r.n r.size r.cs::F):=by
 have hown:=h.row r (qBl hi)
 have h':=h.weaken (B':=B) (R':=R.eraseIdx i) (F':=F) (qBL _) (List.eraseIdx_sublist R i) (fun φ hφ=>hφ)
 refine h'.addFact fun w' hk=>Cells.keeps (zd hown) hk fun g hg hm=>?_
 obtain ⟨R1,R2,rfl,he⟩:=qed hi
 rw[he] at hm
 have hnd:=(qpt (B:=B) (R1:=R1) (R2:=R2) (r:=r)).nodup_iff.1 h.nodup
 grind [qly,RowD.blocks_v]
def eI (k:IntKind)(x:Int):List Value:=[.int k x]
def eB (x:Bool):List Value:=[.bool x]
def Sl {α:Type}(enc:α→List Value)(size:Nat)(v:Value)(xs:List α):World→Prop:=Cells v xs.length size (xs.flatMap enc)
def Ro {α:Type}(enc:α→List Value)(e:TypeId)(size:Nat)(v:Value)(xs:List α):RowD:=⟨v,e,size,xs.length,xs.flatMap enc⟩
def app {α:Type}(lim:Nat)(xs ys:List α):Option (List α):=if xs.length+ys.length≤lim then some (xs++ys) else none
structure EncOk {α:Type} (enc:α→List Value) (size:Nat):Prop where
 len:∀ x,(enc x).length=size
 ok:∀ x,qdX (enc x)=true
theorem qA (k:IntKind):EncOk (eI k) 1:=⟨fun _=>rfl,fun _=>rfl⟩
theorem EncOk.okAll {enc:α→List Value}{size:Nat}(h:EncOk enc size)(xs:List α):qdX (xs.flatMap enc)=true:=by
 unfold qdX
 rw[qBX]
 intro v hv
 obtain ⟨x,_,hx⟩:=qCa.1 hv
 exact qBX.1 (h.ok x) v hx
theorem yX {enc:α→List Value}{size:Nat}(h:EncOk enc size):∀ (xs:List α) (i:Nat) (y:α) (j:Nat) (u:Value),xs[i]?=some y→(enc y)[j]?=some u→(xs.flatMap enc)[i*size+j]?=some u:=by
 intro xs
 induction xs with
 | nil=>simp
 | cons x xs ih =>
  intro i y j u hi hj
  rw[qBG]
  cases i with
  | zero =>
   grind
  | succ i =>
   have:=ih i y j u (by grind) hj
   rw[List.getElem?_append_right (by rw[h.len,qCE];omega),h.len]
   grind
variable {e:TypeId}{agg:Bool}{z:Value}{size bytes:Nat}
theorem qyv {x:Operand}(hw:wants ops l ⟨some d,.box e x,t,pos,af,gd⟩=some true)(hx:ev l x=some V)(hd:Nat.blt d n=true)(h:∀ g,SXO P ro n D M0 w0 Q ops rest ((d,.pointer (some ⟨g,0,none⟩))::l) (⟨g,e,V.cells.toList⟩::B) R F m r):SXO P ro n D M0 w0 Q ops (⟨some d,.box e x,t,pos,af,gd⟩::rest) l B R F m r :=
 kS hw fun hm a w hf hp=>by
  have h1:=hf.ev hx
  refine ⟨.pointer (some ⟨w.heap.size,0,none⟩),w.alloc (.cells V.cells e),?_,h _ hm _ _ (hf.put hd _) ?_⟩
  ·generalize a.eval=ε at h1 ⊢
   simp[execOp,h1,Instr.box,newVar,newRow]
  ·have:=hp.alloc V.cells.toList e
   omega
theorem qj2 (hw:wants ops l ⟨some d,.alloc e,t,pos,af,gd⟩=some true)(hT:TyF P e agg z size bytes)(hd:Nat.blt d n=true)(h:∀ g,SXO P ro n D M0 w0 Q ops rest ((d,.pointer (some ⟨g,0,none⟩))::l) (⟨g,e,z.cells.toList⟩::B) R F m r):SXO P ro n D M0 w0 Q ops (⟨some d,.alloc e,t,pos,af,gd⟩::rest) l B R F m r :=
 kS hw fun hm a w hf hp=>by
  refine ⟨.pointer (some ⟨w.heap.size,0,none⟩),w.alloc (.cells z.cells e),?_,h _ hm _ _ (hf.put hd _) ?_⟩
  ·have hz:=hT.run_zero w
   generalize hq:zeroValue e=q at hz
   simp[execOp,Instr.alloc,hq,hz,newVar,newRow]
  ·have:=hp.alloc z.cells.toList e
   omega
theorem zO {x:Operand}{g o:Nat}{cs:List Value}(hw:wants ops l ⟨some d,.load t' x,t,pos,af,gd⟩=some true)(hx:ev l x=some (.pointer (some ⟨g,o,none⟩)))(hT:TyF P t' agg z size bytes)(hB:B[i]?=some ⟨g,e,cs⟩)(hl:((cs.drop o).take size).length=size)(hs:agg=false→size=1)(hV:(if agg then .agg ((cs.drop o).take size).toArray else ((cs.drop o).take size).getD 0 undef)=V)(hd:Nat.blt d n=true)(h:SXO P ro n D M0 w0 Q ops rest ((d,V)::l) B R F m r):SXO P ro n D M0 w0 Q ops (⟨some d,.load t' x,t,pos,af,gd⟩::rest) l B R F m r :=
 qK V hw rfl hd (fun a w hf hp=>by
  have h1:=hf.ev hx
  have hb:=hp.blk _ (qBl hB)
  have hc:yZ g o ((cs.drop o).take size) w:=by
   intro j u hj
   have hlt:j<size:=by grind
   rw[qCm hlt,qCF] at hj
   have hb':w.heap[g]?=some (.cells cs.toArray e (0,0)):=hb
   grind [World.cell?]
  have hr:=qaj hT hc hl hV.symm hs
  generalize a.eval=ε at h1 ⊢
  simp[execOp,h1,Instr.loadAt,Instr.sureAddr,hr]) h
theorem qhK {x:Operand}{b o:Nat}{cs:List Value}(hw:wants ops l ⟨some d,.load t' x,t,pos,af,gd⟩=some true)(hx:ev l x=some (.pointer (some ⟨b,o,none⟩)))(hT:TyF P t' agg z size bytes)(hF:F[j]?=some (yZ b o cs))(hl:cs.length=size)(hs:agg=false→size=1)(hV:(if agg then .agg cs.toArray else cs.getD 0 undef)=V)(hd:Nat.blt d n=true)(h:SXO P ro n D M0 w0 Q ops rest ((d,V)::l) B R F m r):SXO P ro n D M0 w0 Q ops (⟨some d,.load t' x,t,pos,af,gd⟩::rest) l B R F m r :=
 qK V hw rfl hd (fun a w hf hp=>by
  have h1:=hf.ev hx
  have hc:yZ b o cs w:=(hp.per _ (qBl hF)).here
  have hr:=qaj hT hc hl hV.symm hs
  generalize a.eval=ε at h1 ⊢
  simp[execOp,h1,Instr.loadAt,Instr.sureAddr,hr]) h
theorem kA {x y:Operand}{g o:Nat}{cs cs':List Value}(hw:wants ops l ⟨none,.store t' x y,t,pos,af,gd⟩=some true)(hx:ev l x=some (.pointer (some ⟨g,o,none⟩)))(hy:ev l y=some V)(hT:TyF P t' agg z size bytes)(hB:B[i]?=some ⟨g,e,cs⟩)(hsz:V.cells.size=size)(ho:decide (o+V.cells.size≤cs.length)=true)(hok:qdX V.cells.toList=true)(hcs:cs.take o++V.cells.toList++cs.drop (o+V.cells.size)=cs')(h:SXO P ro n D M0 w0 Q ops rest l (B.set i ⟨g,e,cs'⟩) R F m r):SXO P ro n D M0 w0 Q ops (⟨none,.store t' x y,t,pos,af,gd⟩::rest) l B R F m r:=by
 intro hm a w hf hp
 have h1:=hf.ev hx
 have h2:=hf.ev hy
 have hb:w.heap[g]?=some (.cells cs.toArray e (0,0)):=hp.blk _ (qBl hB)
 have hst:=qje hT hb hsz (by simpa using ho) hok
 simp only[hcs] at hst
 have hr:(execOp a.eval ⟨none,.store t' x y,t,pos,af,gd⟩).run P w=.ok .skip (w.setRow g cs'.toArray):=by
  generalize a.eval=ε at h1 h2 ⊢
  simp[execOp,h1,h2,Instr.storeAt,Instr.sureAddr,hst]
 exact qeL (zg hf hw) (yN hw) hr (h hm _ _ hf (hp.setBlk hB))
theorem qR {x:Operand}{g o:Nat}(hw:wants ops l ⟨some d,.fieldAddr s x i,t,pos,af,gd⟩=some true)(hx:ev l x=some (.pointer (some ⟨g,o,none⟩)))(hF:FdF P s i off)(hd:Nat.blt d n=true)(h:SXO P ro n D M0 w0 Q ops rest ((d,.pointer (some ⟨g,o+off,none⟩))::l) B R F m r):SXO P ro n D M0 w0 Q ops (⟨some d,.fieldAddr s x i,t,pos,af,gd⟩::rest) l B R F m r :=
 qK _ hw rfl hd (fun a w hf _=>by
  have h1:=hf.ev hx
  obtain ⟨fs,f,hu,hf1,hf2,j,hj,hjs⟩:=hF.out
  generalize a.eval=ε at h1 ⊢
  simp[execOp,h1,Instr.fieldAt,run_underlying hu,hf1,Instr.sureAddr,fieldPlace,Go.sizeOf,typeInfo,hj,hjs,hf2,qb7,go_sem]) h
theorem vL {enc:α→List Value}{k:α→Option ρ}{x ix:Operand}{ki:IntKind}{i:Int}{v:Value}(henc:EncOk enc size)(hs0:size≠0)(hw:wants ops l ⟨some d,.indexAddr t' x ix,t,pos,af,gd⟩=some true)(ht:P.underlying t'=some (.slice e))(hT:TyF P e agg z size bytes)(hx:ev l x=some v)(hi:ev l ix=some (.int ki i))(hF:F[j]?=some (Sl enc size v xs))(hd:Nat.blt d n=true)(h:∀ y,idx xs i=some y→∀ b o,SXO P ro n D M0 w0 Q ops rest ((d,.pointer (some ⟨b,o,none⟩))::l) B R (yZ b o (enc y)::F) (k y) r) :
  SXO P ro n D M0 w0 Q ops (⟨some d,.indexAddr t' x ix,t,pos,af,gd⟩::rest) l B R F ((idx xs i).bind k) r:=by
 refine kS hw fun hm a w hf hp=>?_
 cases hq:idx xs i with
 | none=>simp_all
 | some y =>
  rw[hq] at hm
  have hm':k y=some r:=by grind
  unfold idx at hq
  split at hq
  ·rename_i h0
   have hlt:i.toNat<xs.length:=(qBC.1 hq).1
   have hnec:=hp.per _ (qBl hF)
   have hcell:Sl enc size v xs w:=hnec.here
   have h1:=hf.ev hx
   have h2:=hf.ev hi
   ·obtain ⟨⟨ao,cap,rfl,hnc,hcm,hsp,hc⟩,hlen⟩:=hcell
    have h00:0<(enc y).length:=by rw[henc.len];omega
    obtain ⟨ad,rfl,had⟩:=hc (i.toNat*size+0) _ (yX henc xs i.toNat y 0 _ hq (qBk h00))
    have hsp':ad.spot=none:=(hsp _ rfl).resolve_left (by intro h9;have h8:=yX henc xs i.toNat y 0 _ hq (qBk h00);grind)
    refine ⟨.pointer (some ⟨ad.block,ad.off+i.toNat*size,none⟩),w,?_,h y (by grind [idx]) _ _ hm' _ _ (hf.put hd _) (hp.addFact ?_)⟩
    ·have hlt':i<(xs.length:Int):=by omega
     generalize a.eval=ε at h1 h2 ⊢
     simp[execOp,h1,h2,Instr.indexAt,asIntOf,run_underlying ht,hT.run_size,h0,hlt',qdx _ _ hsp',go_sem]
    ·intro w' hk' jj u hj
     obtain ⟨⟨ao',cap',hv',_,_,hsp',hc'⟩,_⟩:=hnec w' hk'
     simp only[Value.slice.injEq] at hv'
     obtain ⟨rfl,-,-⟩:=hv'
     obtain ⟨ad',h3,h4⟩:=hc' (i.toNat*size+jj) u (yX henc xs i.toNat y jj u hq hj)
     grind
  simp_all
theorem qu6 (vs:List Value):∀ (j0 off:Nat) (done old rest:List Value),done.length=off+j0→old.length=vs.length →
  ((vs.zipIdx j0).foldl (fun (cs:Array Value) (p:Value×Nat)=>cs.setIfInBounds (off+p.2) p.1) (done++old++rest).toArray)=(done++vs++rest).toArray:=by
 induction vs with
 | nil=>simp
 | cons v vs ih =>
  intro j0 off done old rest hd ho
  cases old with
  | nil=>grind
  | cons o old =>
   rw[qCA,List.foldl_cons]
   have e1:(done++(o::old)++rest).toArray.setIfInBounds (off+j0) v=((done++[v])++old++rest).toArray:=by
    simp_all
   simp only at e1 ⊢
   rw[e1,ih (j0+1) off (done++[v]) old rest (by simp;omega) (by grind)]
   simp
theorem qxG:∀ (vs:List Value) (k:Nat) (done old:List Value),(∀ v∈vs,v.cells.size=size)→done.length=k*size→old.length=vs.length*size →
  Instr.fill (fun i=>some (i*size,size)) (done++old).toArray (vs.zipIdx k |>.map fun p=>(p.2,p.1))=some (done++vs.flatMap (fun v=>v.cells.toList)).toArray:=by
 intro vs
 induction vs with
 | nil=>intro k done old _ _ ho;have:old=[]:=qBO (by grind);subst this;rfl
 | cons v vs ih =>
  intro k done old hv hd ho
  have hvs:=hv v (by simp)
  have hol:size≤old.length:=by grind [qCE]
  simp only[qCA,qB2,Instr.fill]
  have hbig:¬ (v.cells.size≠size || (k*size+v.cells.size) > (done++old).toArray.size)=true:=by
   simp_all
  rw[if_neg hbig]
  have hp:=qu6 v.cells.toList 0 (k*size) done (old.take size) (old.drop size) (by omega) (by simp_all)
  rw[qBt,qCk] at hp
  have e2:(Array.foldl (fun (cs:Array Value) (p:Value×Nat)=>cs.setIfInBounds (k*size+p.2) p.1) (done++old).toArray v.cells.zipIdx)=(done++v.cells.toList++old.drop size).toArray:=by
   rw[← hp,← Array.foldl_toList]
   simp
  have:=ih (k+1) (done++v.cells.toList) (old.drop size) (fun u hu=>hv u (by grind)) (by grind) (by simp[ho,qCE])
  simp_all
def mk {α:Type}(lim:Nat)(y:α)(n:Int):Option (List α):=if 0≤n∧n≤(lim:Int) then some (qBj n.toNat y) else none
def sub {α:Type}(xs:List α)(lo hi:Int):Option (List α):=if 0≤lo∧lo≤hi∧hi≤xs.length then some ((xs.take hi.toNat).drop lo.toNat) else none
def evParts (l:Env):List (Nat×Operand)→Option (List (Nat×Value))
 | []=>some []
 | (i,x)::r=>match ev l x,evParts l r with
  | some v,some vs=>some ((i,v)::vs)
  | _,_=>none
theorem Fr.evParts {n:Nat}{D:List Deferred}{a:Act}{l:Env}(h:Fr n D a l):∀ {ps:List (Nat×Operand)} {vs:List (Nat×Value)},SX.evParts l ps=some vs→ps.map (fun p=>(p.1,a.eval p.2))=vs:=by
 intro ps
 induction ps with
 | nil=>grind [evParts]
 | cons p ps ih =>
  intro vs hv
  obtain ⟨i,x⟩:=p
  simp only[SX.evParts] at hv
  split at hv
  ·rename_i v vs' h1 h2
   simp at hv;subst hv
   simp[h.ev h1,ih h2]
  simp_all
def evArgs (l:Env):List Operand→Option (List Value)
 | []=>some []
 | x::r=>match ev l x,evArgs l r with
  | some v,some vs=>some (v::vs)
  | _,_=>none
theorem Fr.evArgs {n:Nat}{D:List Deferred}{a:Act}{l:Env}(h:Fr n D a l):∀ {ps:List Operand} {vs:List Value},SX.evArgs l ps=some vs→ps.map a.eval=vs:=by
 intro ps
 induction ps with
 | nil=>grind [evArgs]
 | cons x ps ih =>
  intro vs hv
  simp only[SX.evArgs] at hv
  split at hv
  ·rename_i v vs' h1 h2
   simp at hv;subst hv
   simp[h.ev h1,ih h2]
  simp_all
theorem qQ {enc:α→List Value}(h:EncOk enc size)(xs:List α):(xs.flatMap enc).length=xs.length*size:=by
 induction xs with
 | nil=>simp
 | cons x xs ih=>simp[h.len,ih,qCE];omega
theorem qlw {enc:α→List Value}(henc:EncOk enc size){cs:List Value}(ys:List α)(cap:Nat)(hcap:cap≤maxLen)(hle:ys.length≤cap)(hlen:cs.length=cap*size)(hcs:cs.take (ys.length*size)=ys.flatMap enc):(Ro enc e size (.slice (some ⟨w.heap.size,0,none⟩) ys.length cap) ys).own (w.alloc (.cells cs.toArray e)):=by
 refine ⟨qQ henc ys,.inr ⟨w.heap.size,cap,cs.toArray,rfl,qBH _,heap_alloc_new w _,hle,hcap,(by omega:cs.toArray.size=cap*size),hcs⟩⟩
theorem qlN {enc:α→List Value}{len:Nat}(henc:EncOk enc size)(hs0:size≠0)(hw:wants ops l ⟨some d,.buildSlice t' len parts,t,pos,af,gd⟩=some true)(ht:P.underlying t'=some (.slice e))(hT:TyF P e agg z size bytes)(hzs:z.cells.size=size)(hd:Nat.blt d n=true)(hp:evParts l parts.toList=some (vs.zipIdx.map fun p=>(p.2,p.1)))(hys:vs.map (fun v=>v.cells.toList)=ys.map enc)(hl:len=ys.length)(hbig:len*size≤16777216)(h:∀ v,SXO P ro n D M0 w0 Q ops rest ((d,v)::l) B (Ro enc e size v ys::R) F m r) :
  SXO P ro n D M0 w0 Q ops (⟨some d,.buildSlice t' len parts,t,pos,af,gd⟩::rest) l B R F m r:=by
 refine kS hw fun hm a w hf hh=>?_
 have hvl:vs.length=ys.length:=by have:=congrArg List.length hys;simpa using this
 have hcells:∀ v∈vs,v.cells.size=size:=by
  intro v hv
  have:v.cells.toList∈ys.map enc:=by rw[← hys];exact qBK.2 ⟨v,hv,rfl⟩
  obtain ⟨y,_,hy⟩:=qBK.1 this
  have:=henc.len y
  rw[hy] at this
  simpa using this
 have hflat:vs.flatMap (fun v=>v.cells.toList)=ys.flatMap enc:=by
  rw[List.flatMap_def,List.flatMap_def,hys]
 have hpe:=hf.evParts hp
 subst hl
 have hfill:=qxG (size:=size) vs 0 [] ((Array.range (ys.length*size)).map (z.cells[·%z.cells.size]!)).toList hcells (by simp) (by simp[hvl])
 simp only[qBF,hflat] at hfill
 refine ⟨.slice (some ⟨w.heap.size,0,none⟩) ys.length ys.length,w.alloc (.cells (ys.flatMap enc).toArray e),?_,h _ hm _ _ (hf.put hd _) (hh.addRow (Keeps.alloc _ _ _) (qlw henc ys ys.length ?_ (qBw _) (qQ henc ys) ?_) ?_)⟩
 ·have hbig':¬ ys.length*size > 2^24:=by simpa using hbig
  have hpa:(parts.map fun p=>(p.1,a.eval p.2))=(vs.zipIdx.map fun p=>(p.2,p.1)).toArray:=by
   rw[← hpe,← Array.toList_map,Array.toArray_toList]
  by_cases h0:ys.length=0
  ·have hys0:ys=[]:=qBO h0
   subst hys0
   have hvs0:vs=[]:=qBO (by simpa using hvl)
   subst hvs0
   simp only[List.zipIdx_nil,List.map_nil] at hpa
   have hr0:Array.range 0=#[]:=rfl
   simp[execOp,hpa,Instr.buildSlice,run_underlying ht,hT.run_size,Instr.fill,newRow,hr0]
  ·have hne:¬ ys.length*size=0:=Nat.mul_ne_zero h0 hs0
   have hz:=hT.run_zero w
   generalize hq:zeroValue e=q at hz
   simp only[execOp]
   rw[hpa]
   have hfill':Instr.fill (fun i=>some (i*size,size)) ((Array.range (ys.length*size)).map (z.cells[·%z.cells.size]!)) (vs.zipIdx.map fun p=>(p.2,p.1))=some (ys.flatMap enc).toArray:=by
    rw[Array.toArray_toList] at hfill
    exact hfill
   simp[Instr.buildSlice,run_underlying ht,hT.run_size,hbig',hq,hz,hfill',newRow]
   exact fun h=>absurd h hne
 ·have:ys.length≤ys.length*size:=Nat.le_mul_of_pos_right _ (by omega)
  simp only[maxLen];omega
 ·rw[← qQ henc ys,List.take_length]
 ·intro g hg
  simp[Ro,Value.ownBlock] at hg
  omega
theorem qru (enc:α→List Value)(e:TypeId)(size:Nat)(h:SXO P ro n D M0 w0 Q ops rest l B (Ro enc e size (.slice none 0 0) ([]:List α)::R) F m r):SXO P ro n D M0 w0 Q ops rest l B R F m r :=
 fun hm a w hf hp=>h hm a w hf (hp.addRow (Keeps.refl _ _) ⟨by simp[Ro],.inl ⟨rfl,rfl⟩⟩ (by simp[Ro,Value.ownBlock]))
theorem qiw {enc:α→List Value}{v:Value}(i:Nat)(hR:R[i]?=some (Ro enc e size v xs))(h:SXO P ro n D M0 w0 Q ops rest l B (R.eraseIdx i) (Sl enc size v xs::F) m r):SXO P ro n D M0 w0 Q ops rest l B R F m r :=
 fun hm a w hf hp=>h hm a w hf (hp.freeze hR)
theorem qm0 {u:Value}{k:Nat}{cs:List Value}(hp:Hp M0 w0 w B R F)(hu:(∃ (j:Nat) (e':TypeId),R[j]?=some ⟨u,e',size,k,cs⟩)∨(∃ (j:Nat),F[j]?=some (Cells u k size cs))):Cells u k size cs w:=by
 rcases hu with ⟨j,e',h⟩ | ⟨j,h⟩
 ·exact zd (hp.row _ (qBl h))
 ·exact (hp.per _ (qBl h)).here
theorem qrl {enc:α→List Value}{k:List α→Option ρ}{s x:Operand}{v u:Value}(i:Nat)(henc:EncOk enc size)(hw:wants ops l ⟨some d,.call ⟨.builtin .append,#[s,x],#[t',t']⟩,t,pos,af,gd⟩=some true)(ht:P.underlying t'=some (.slice e))(hT:TyF P e agg z size bytes)(hzs:z.cells.size=size)(hd:Nat.blt d n=true)(hs:ev l s=some v)(hx:ev l x=some u)(hR:R[i]?=some (Ro enc e size v xs))(hu:(∃ (j:Nat) (e':TypeId),R[j]?=some (Ro enc e' size u ys))∨(∃ (j:Nat),F[j]?=some (Sl enc size u ys)))(hlim:lim≤9223372036854775807)(hlb:lim*bytes≤140737488355328)(h:∀ zs,app lim xs ys=some zs→∀ v',SXO P ro n D M0 w0 Q ops rest ((d,v')::l) B (Ro enc e size v' zs::R.eraseIdx i) F (k zs) r) :
  SXO P ro n D M0 w0 Q ops (⟨some d,.call ⟨.builtin .append,#[s,x],#[t',t']⟩,t,pos,af,gd⟩::rest) l B R F ((app lim xs ys).bind k) r:=by
 refine kS hw fun hm a w hf hp=>?_
 cases hq:app lim xs ys with
 | none=>simp_all
 | some zs =>
  rw[hq] at hm
  have hm':k zs=some r:=by grind
  have hq':=hq
  unfold app at hq
  split at hq
  ·rename_i hle
   simp only[qBs] at hq
   subst hq
   have h1:=hf.ev hs
   have h2:=hf.ev hx
   have hsrc:Cells u ys.length size (ys.flatMap enc) w:=qm0 hp (by
    rcases hu with ⟨j,e',h⟩ | ⟨j,h⟩
    ·exact .inl ⟨j,e',h⟩
    ·exact .inr ⟨j,h⟩)
   obtain ⟨v',w',hr,ho,hk⟩:=qkd (P:=P) (ty:=t) w ht hT hzs (hp.row _ (qBl hR)) hsrc (henc.okAll ys)
    (by show xs.length+ys.length≤maxLen;grind [maxLen]) (by show (xs.length+ys.length)*bytes≤_;exact qB5 (qBN _ hle) hlb)
   refine ⟨v',w',?_,h _ hq' v' hm' _ _ (hf.put hd _) (hp.swapRow hR ?_ hk)⟩
   ·generalize a.eval=ε at h1 h2 ⊢
    simp only[Ro] at hr
    simp[execOp,resolve,invoke,builtin,h1,h2,hr]
   ·have ho':w'.ownsRow 0 e size v' (xs.length+ys.length) (xs.flatMap enc++ys.flatMap enc):=ho
    show w'.ownsRow 0 e size v' (xs++ys).length ((xs++ys).flatMap enc)
    simp_all
  simp_all
theorem qcv {enc:α→List Value}{k:α→Option ρ}{x ix:Operand}{ki:IntKind}{i:Int}{v:Value}(hw:wants ops l ⟨some d,.indexAddr t' x ix,t,pos,af,gd⟩=some true)(ht:P.underlying t'=some (.slice e))(hT:TyF P e agg z size bytes)(hx:ev l x=some v)(hi:ev l ix=some (.int ki i))(hR:R[j]?=some (Ro enc e size v xs))(hd:Nat.blt d n=true)(h:∀ y,idx xs i=some y→∀ g,v.ownBlock=some g→SXO P ro n D M0 w0 Q ops rest ((d,.pointer (some ⟨g,i.toNat*size,none⟩))::l) B R F (k y) r) :
  SXO P ro n D M0 w0 Q ops (⟨some d,.indexAddr t' x ix,t,pos,af,gd⟩::rest) l B R F ((idx xs i).bind k) r:=by
 refine kS hw fun hm a w hf hp=>?_
 cases hq:idx xs i with
 | none=>simp_all
 | some y =>
  rw[hq] at hm
  have hm':k y=some r:=by grind
  have hq0:=hq
  unfold idx at hq
  split at hq
  ·rename_i h0
   have hlt:i.toNat<xs.length:=(qBC.1 hq).1
   have h1:=hf.ev hx
   have h2:=hf.ev hi
   have hown:=hp.row _ (qBl hR)
   rcases hown.2 with ⟨_,h3⟩ | ⟨g,cap,cur,hv,_⟩
   ·have:xs.length=0:=h3
    omega
   ·have hv':v=.slice (some ⟨g,0,none⟩) xs.length cap:=hv
    refine ⟨.pointer (some ⟨g,i.toNat*size,none⟩),w,?_,h y hq0 g (by rw[hv'];rfl) hm' _ _ (hf.put hd _) hp⟩
    have hlt':i<(xs.length:Int):=by omega
    rw[hv'] at h1
    generalize a.eval=ε at h1 h2 ⊢
    simp[execOp,h1,h2,Instr.indexAt,asIntOf,run_underlying ht,hT.run_size,h0,hlt',qb7]
  simp_all
theorem qlx {enc:α→List Value}(henc:EncOk enc size){v:Value}{g:Nat}{y:α}(hown:(Ro enc e size v xs).own w)(hg:v.ownBlock=some g)(hy:xs[i]?=some y) :
  yZ g (i*size) (enc y) w:=by
 intro j u hj
 have hc:=zd hown
 obtain ⟨⟨ao,cap,hv,_,_,hsp,hcl⟩,_⟩:=hc
 have hv':v=.slice ao xs.length cap:=hv
 obtain ⟨ad,rfl,h4⟩:=hcl (i*size+j) u (yX henc xs i y j u hy hj)
 subst hv'
 rcases hown.2 with ⟨h5,_⟩ | ⟨g',cap',cur,h5,_⟩
 ·simp_all
 ·simp only[Ro,Value.slice.injEq,qBs] at h5
  obtain ⟨rfl,-,-⟩:=h5
  grind [Value.ownBlock]
theorem ku {enc:α→List Value}{x:Operand}{g:Nat}{v:Value}{y:α}(henc:EncOk enc size)(hw:wants ops l ⟨some d,.load t' x,t,pos,af,gd⟩=some true)(hx:ev l x=some (.pointer (some ⟨g,i*size,none⟩)))(hT:TyF P t' agg z size bytes)(hR:R[j]?=some (Ro enc e size v xs))(hg:v.ownBlock=some g)(hy:xs[i]?=some y)(hs:agg=false→size=1)(hV:(if agg then .agg (enc y).toArray else (enc y).getD 0 undef)=V)(hd:Nat.blt d n=true)(h:SXO P ro n D M0 w0 Q ops rest ((d,V)::l) B R F m r):SXO P ro n D M0 w0 Q ops (⟨some d,.load t' x,t,pos,af,gd⟩::rest) l B R F m r :=
 qK V hw rfl hd (fun a w hf hp=>by
  have h1:=hf.ev hx
  have hc:=qlx henc (hp.row _ (qBl hR)) hg hy
  have hr:=qaj hT hc (henc.len y) hV.symm hs
  generalize a.eval=ε at h1 ⊢
  simp[execOp,h1,Instr.loadAt,Instr.sureAddr,hr]) h
theorem qry (A B C:List α)(N:Nat)(h:A.length+B.length≤N):(A++(B++C)).take N=A++(B++C.take (N-A.length-B.length)):=by
 grind [List.take_append,qCr]
theorem qpi {enc:α→List Value}(henc:EncOk enc size):∀ (xs:List α) (i:Nat) (y:α),i<xs.length →
  (xs.set i y).flatMap enc=(xs.flatMap enc).take (i*size)++enc y++(xs.flatMap enc).drop (i*size+size):=by
 intro xs
 induction xs with
 | nil=>simp
 | cons x xs ih =>
  intro i y h
  cases i with
  | zero=>simp[henc.len]
  | succ i =>
   have:=ih i y (by grind)
   have e1:(i+1)*size=size+i*size:=by grind
   simp only[List.set_cons_succ,qBG,this,e1]
   have h1:(enc x++xs.flatMap enc).take (size+i*size)=enc x++(xs.flatMap enc).take (i*size):=by
    rw[List.take_append,henc.len,qCr (by rw[henc.len];omega)]
    simp
   have h2:(enc x++xs.flatMap enc).drop (size+i*size+size)=(xs.flatMap enc).drop (i*size+size):=by
    rw[qDE,henc.len,qBu (by rw[henc.len];omega),qBF]
    grind
   simp_all
theorem qlQ {enc:α→List Value}{x y:Operand}{g:Nat}{v:Value}{y':α}(henc:EncOk enc size)(hw:wants ops l ⟨none,.store t' x y,t,pos,af,gd⟩=some true)(hx:ev l x=some (.pointer (some ⟨g,i*size,none⟩)))(hy:ev l y=some V)(hT:TyF P t' agg z size bytes)(hR:R[j]?=some (Ro enc e size v xs))(hg:v.ownBlock=some g)(hi:i<xs.length)(hV:V.cells.toList=enc y')(h:SXO P ro n D M0 w0 Q ops rest l B (Ro enc e size v (xs.set i y')::R.eraseIdx j) F m r):SXO P ro n D M0 w0 Q ops (⟨none,.store t' x y,t,pos,af,gd⟩::rest) l B R F m r:=by
 intro hm a w hf hp
 have h1:=hf.ev hx
 have h2:=hf.ev hy
 have hown:=hp.row _ (qBl hR)
 have hvs:V.cells.size=size:=by have:=henc.len y';grind
 have hxl:(xs.flatMap enc).length=xs.length*size:=qQ henc xs
 rcases hown.2 with ⟨h5,_⟩ | ⟨g',cap',cur,h5,_,hgg,hnc,hcm,hcs,htake⟩
 ·have h5':v=.slice none 0 0:=h5
  grind [Value.ownBlock]
 ·have h5':v=.slice (some ⟨g',0,none⟩) xs.length cap':=h5
  subst h5'
  simp[Value.ownBlock] at hg
  subst hg
  have hgg':w.heap[g']?=some (.cells cur e (0,0)):=hgg
  have hcs':cur.size=cap'*size:=hcs
  have htake':cur.toList.take (xs.length*size)=xs.flatMap enc:=htake
  have hmul:(i+1)*size≤xs.length*size:=qBN _ hi
  rw[qCE] at hmul
  have hnc':xs.length≤cap':=hnc
  have hmul2:xs.length*size≤cap'*size:=qBN _ hnc'
  have hok:qdX V.cells.toList=true:=by rw[hV];exact henc.ok y'
  have hst:=qje hT hgg' hvs (o:=i*size) (by omega) hok
  have hr:(execOp a.eval ⟨none,.store t' x y,t,pos,af,gd⟩).run P w=.ok .skip (w.setRow g' (cur.toList.take (i*size)++V.cells.toList++cur.toList.drop (i*size+V.cells.size)).toArray):=by
   generalize a.eval=ε at h1 h2 ⊢
   simp[execOp,h1,h2,Instr.storeAt,Instr.sureAddr,hst]
  refine qeL (zg hf hw) (yN hw) hr (h hm _ _ hf (hp.swapRow hR ?_ (.inl ⟨rfl,⟨rfl,rfl,rfl,by simp,fun k _ hk=>setRow_other w g' k _ (fun e=>hk (by grind [Value.ownBlock])),fun _=>qBw _⟩⟩)))
  have hlen:(xs.set i y').length=xs.length:=List.length_set
  refine ⟨by show ((xs.set i y').flatMap enc).length=(xs.set i y').length*size;exact qQ henc _,.inr ⟨g',cap',_,?_,qBH _,setRow_heap w g' cur _ e _ hgg',?_,hcm,?_,?_⟩⟩
  ·show Value.slice _ xs.length _=Value.slice _ (xs.set i y').length _
   simp
  ·show (xs.set i y').length≤cap'
   omega
  ·show _=cap'*size
   grind
  ·show List.take ((xs.set i y').length*size) _=(xs.set i y').flatMap enc
   rw[hlen,qpi henc xs i y' hi,← htake',hV]
   grind [List.drop_take,qry]
def evOpt (l:Env)(x:Option Operand)(dflt:Int):Option Int :=
 match x with
 | none=>some dflt
 | some x=>match ev l x with
  | some (.int _ i)=>some i
  | _=>none
theorem Cells.cut {v:Value}{k lo hi:Nat}{cs:List Value}(h:Cells v k size cs w)(h1:lo≤hi)(h2:hi≤k) :
  ∃ a cap,v=.slice a k cap∧Cells (.slice (if cap=lo then a else a.map (·.add (lo*size))) (hi-lo) (cap-lo)) (hi-lo) size ((cs.take (hi*size)).drop (lo*size)) w:=by
 obtain ⟨⟨a,cap,rfl,hn,hm,hs,hc⟩,hl⟩:=h
 have hmul:lo*size≤hi*size:=qBN _ h1
 have hmul2:hi*size≤k*size:=qBN _ h2
 refine ⟨a,cap,rfl,⟨_,_,rfl,by omega,by omega,?_,?_⟩,by grind [Nat.sub_mul]⟩
 ·intro ad had
  by_cases hcs:cs=[]
  ·simp_all
  right
  split at had
  ·simp_all
  ·cases a with
   | none=>simp_all
   | some a0 =>
    simp at had
    rw[qdx _ _ ((hs a0 rfl).resolve_left hcs)] at had
    grind
 ·intro j u hj
  have hjl:=(qBC.1 hj).1
  simp only[qCc,qB7,hl] at hjl
  rw[qCF,qCm (by omega)] at hj
  obtain ⟨ad,rfl,hcell⟩:=hc _ u hj
  have hne:¬ cap=lo:=by
   grind
  rw[if_neg hne]
  refine ⟨ad.add (lo*size),rfl,?_⟩
  rw[qdx _ _ ((hs _ rfl).resolve_left (by grind))]
  grind
theorem qdc {enc:α→List Value}(henc:EncOk enc size):∀ (xs:List α) (i:Nat),(xs.take i).flatMap enc=(xs.flatMap enc).take (i*size):=by
 intro xs
 induction xs with
 | nil=>simp
 | cons x xs ih =>
  intro i
  cases i with
  | zero=>simp
  | succ i =>
   have e1:(enc x++xs.flatMap enc).take ((i+1)*size)=enc x++(xs.flatMap enc).take (i*size):=by
    have hx:=henc.len x
    grind [qCE]
   simp_all
theorem qiY {enc:α→List Value}(henc:EncOk enc size):∀ (xs:List α) (i:Nat),(xs.drop i).flatMap enc=(xs.flatMap enc).drop (i*size):=by
 intro xs
 induction xs with
 | nil=>simp
 | cons x xs ih =>
  intro i
  cases i with
  | zero=>simp
  | succ i =>
   have e1:(enc x++xs.flatMap enc).drop ((i+1)*size)=(xs.flatMap enc).drop (i*size):=by
    have hx:=henc.len x
    rw[qDE,qBu (show (enc x).length≤(i+1)*size by grind),hx,qBF]
    grind
   simp_all
theorem qdz {x:Option Operand}{dflt i:Int}(hf:Fr n D a l)(h:evOpt l x dflt=some i):(∃ k,x.map a.eval=some (.int k i))∨(x=none∧i=dflt):=by
 cases x with
 | none=>simp[evOpt] at h;simp_all
 | some x =>
  simp only[evOpt] at h
  split at h
  ·rename_i k j hx
   simp at h;subst h
   exact .inl ⟨k,by simp[hf.ev hx]⟩
  simp_all
theorem qwJ {enc:α→List Value}{k:List α→Option ρ}{x:Operand}{lo hi:Option Operand}{li hj:Int}{v:Value}(henc:EncOk enc size)(hw:wants ops l ⟨some d,.slice t' x lo hi none,t,pos,af,gd⟩=some true)(ht:P.underlying t'=some (.slice e))(hT:TyF P e agg z size bytes)(hx:ev l x=some v)(hlo:evOpt l lo 0=some li)(hhi:evOpt l hi (xs.length:Int)=some hj)(hF:F[j]?=some (Sl enc size v xs))(hd:Nat.blt d n=true)(h:∀ ys,sub xs li hj=some ys→∀ v',SXO P ro n D M0 w0 Q ops rest ((d,v')::l) B R (Sl enc size v' ys::F) (k ys) r) :
  SXO P ro n D M0 w0 Q ops (⟨some d,.slice t' x lo hi none,t,pos,af,gd⟩::rest) l B R F ((sub xs li hj).bind k) r:=by
 refine kS hw fun hm a w hf hp=>?_
 cases hq:sub xs li hj with
 | none=>simp_all
 | some ys =>
  rw[hq] at hm
  have hm':k ys=some r:=by grind
  have hq0:=hq
  unfold sub at hq
  split at hq
  ·rename_i hb
   obtain ⟨b1,b2,b3⟩:=hb
   simp only[qBs] at hq
   obtain ⟨L,rfl⟩:=qBm b1
   obtain ⟨H,rfl⟩:=qBm (Int.le_trans b1 b2)
   have b2':L≤H:=by omega
   have b3':H≤xs.length:=by omega
   have hnec:=hp.per _ (qBl hF)
   obtain ⟨a0,cap,hv,_⟩:=Cells.cut (hnec.here:Cells v xs.length size (xs.flatMap enc) w) b2' b3'
   have hcap:xs.length≤cap:=by
    obtain ⟨⟨a1,c1,hv1,hn1,_⟩,_⟩:=(hnec.here:Cells v xs.length size (xs.flatMap enc) w)
    simp_all
   subst hv
   have hys:ys.length=H-L:=by grind
   refine ⟨.slice (if cap=L then a0 else a0.map (·.add (L*size))) (H-L) (cap-L),w,?_,h ys hq0 _ hm' _ _ (hf.put hd _) (hp.addFact ?_)⟩
   ·have h1:=hf.ev hx
    have e1:=qdz hf hlo
    have e2:=qdz hf hhi
    have hb1:(H:Int)≤(cap:Int):=by omega
    have hb0:(0:Int)≤(H:Int):=by omega
    have hb2:(L:Int)≤(H:Int):=by omega
    have hb3:(0:Int)≤(L:Int):=by omega
    have hn1:H≤cap:=by omega
    have hn2:¬ H<L:=by omega
    have hn3:¬ cap<H:=by omega
    generalize hε:a.eval=ε at h1 e1 e2 ⊢
    rcases e1 with ⟨k1,e1⟩ | ⟨rfl,e1⟩ <;> rcases e2 with ⟨k2,e2⟩ | ⟨rfl,e2⟩
    ·simp[execOp,h1,e1,e2,Instr.sliceAt,Instr.slice,Instr.sliceBounds,Instr.sliceBound,asIntOf,run_underlying ht,hT.run_size,hb0,hb3,hn1,b2']
    ·have:H=xs.length:=by omega
     subst this
     simp[execOp,h1,e1,Instr.sliceAt,Instr.slice,Instr.sliceBounds,Instr.sliceBound,asIntOf,run_underlying ht,hT.run_size,hb3,b2']
    ·have:L=0:=by omega
     subst this
     simp[execOp,h1,e2,Instr.sliceAt,Instr.slice,Instr.sliceBounds,Instr.sliceBound,asIntOf,run_underlying ht,hT.run_size,hb0,hn1]
    ·have:H=xs.length:=by omega
     subst this
     have:L=0:=by omega
     subst this
     simp[execOp,h1,Instr.sliceAt,Instr.slice,Instr.sliceBounds,run_underlying ht,hT.run_size]
   ·intro w' hk'
    obtain ⟨a2,c2,hv2,hc2⟩:=Cells.cut (hnec w' hk':Cells _ xs.length size (xs.flatMap enc) w') b2' b3'
    simp only[Value.slice.injEq] at hv2
    obtain ⟨rfl,-,rfl⟩:=hv2
    show Cells _ ys.length size (ys.flatMap enc) w'
    rw[hys,← hq,qiY henc,qdc henc]
    grind
  simp_all
theorem qtG (z:Value)(k:Nat)(h:z.cells=#[z]):(madeCells z.cells k).toList=(qBj k z):=by
 rw[h]
 simp only[madeCells]
 apply List.ext_getElem
 ·simp
 ·intro i h1 h2
  simp[Nat.mod_one]
theorem qiZ (enc:α→List Value)(y:α)(z:Value)(h:enc y=[z])(k:Nat):(qBj k y).flatMap enc=qBj k z:=by
 induction k with
 | zero=>simp
 | succ k ih=>grind
theorem qmW {i:TypeInfo}(ht:P.underlying t=some (.slice e))(hi:P.info? e=some i)(hz:i.zero=some z)(hs:i.size=size)(kl kc:IntKind)(n:Nat)(hb:n*i.bytes≤281474976710656)(hn:n≤maxLen) :
  ∃ w',(Instr.makeSlice t (.int kl (n:Int)) (.int kc (n:Int))).run P w=.ok (.slice (some ⟨w.heap.size,0,none⟩) n n) w'∧w'.ownsRow 0 e size (.slice (some ⟨w.heap.size,0,none⟩) n n) n (madeCells z.cells (n*size)).toList∧Keeps [] w w':=by
 have h1:((n*i.bytes:Nat):Int)≤281474976710656:=by omega
 rw[Int.natCast_mul,Int.mul_comm] at h1
 have h2:(n:Int)≤9223372036854775807:=by grind [maxLen]
 have hr:=run_make (P:=P) w t e i z ht hi hz kl kc n n (by omega) (Int.le_refl _) h1 h2
 rw[qBo,hs] at hr
 exact ⟨_,hr,World.ownsRow_lit w _ n (qBH _) hn (size_madeCells _ _),Keeps.alloc [] w _⟩
theorem qwQ {enc:α→List Value}{y:α}{k:List α→Option ρ}{x c:Operand}{kl kc:IntKind}{i:Int}(_henc:EncOk enc 1)(hw:wants ops l ⟨some d,.makeSlice t' x c,t,pos,af,gd⟩=some true)(ht:P.underlying t'=some (.slice e))(hT:TyF P e agg z 1 bytes)(hx:ev l x=some (.int kl i))(hc:ev l c=some (.int kc i))(hz:z.cells=#[z])(hy:enc y=[z])(hlim:lim≤9223372036854775807)(hlb:lim*bytes≤281474976710656)(hd:Nat.blt d n=true)(h:∀ ys,mk lim y i=some ys→∀ v,SXO P ro n D M0 w0 Q ops rest ((d,v)::l) B (Ro enc e 1 v ys::R) F (k ys) r) :
  SXO P ro n D M0 w0 Q ops (⟨some d,.makeSlice t' x c,t,pos,af,gd⟩::rest) l B R F ((mk lim y i).bind k) r:=by
 refine kS hw fun hm a w hf hp=>?_
 cases hq:mk lim y i with
 | none=>simp_all
 | some ys =>
  rw[hq] at hm
  have hm':k ys=some r:=by grind
  have hq0:=hq
  unfold mk at hq
  split at hq
  ·rename_i hb
   simp only[qBs] at hq
   obtain ⟨N,rfl⟩:=qBm hb.1
   have hN:N≤lim:=by omega
   obtain ⟨i0,hi,hz0,hs0,hb0⟩:=hT.inf
   subst hb0
   obtain ⟨w',hr,ho,hk⟩:=qmW (P:=P) (w:=w) ht hi hz0 hs0 kl kc N (qB5 (qBN _ hN) hlb) (by grind [maxLen])
   have h1:=hf.ev hx
   have h2:=hf.ev hc
   have hyl:ys.length=N:=by grind
   refine ⟨_,w',?_,h ys hq0 _ hm' _ _ (hf.put hd (.slice (some ⟨w.heap.size,0,none⟩) N N)) (hp.addRow hk ?_ ?_)⟩
   ·generalize a.eval=ε at h1 h2 ⊢
    simp[execOp,h1,h2,hr]
   ·show w'.ownsRow 0 e 1 _ ys.length (ys.flatMap enc)
    rw[hyl,← hq]
    simp only[qBo]
    rw[qiZ enc y z hy,← qtG z N hz]
    rw[Nat.mul_one] at ho
    exact ho
   grind [Ro,Value.ownBlock]
  simp_all
def Enters (P:Program)(f:FuncId):Prop:=∀ (args:Array Value) (w:World),(callFunc f args).run P w=.ok (.enter f args) w
theorem qjE {c : Code}(hf : P.funcs[f]? = some fn)(hname : (fn.name == "runtime.NumGoroutine") = false := by rfl)(hb : fn.body = some c := by rfl) : Enters P f := by
 intro args w
 have h1 : fn.name ≠ "runtime.NumGoroutine" := by simp_all
 simp[callFunc,hf,h1,hb]
structure Ret (w w':World) (R:List RowD) (F:List (World→Prop)):Prop where
 keep:Keeps [] w w'
 rows:∀ r∈R,r.owns w'
 nodup:(muts [] R).Nodup
 fresh:∀ g∈muts [] R,w.heap.size≤g
 per:∀ φ∈F,∀ w'':World,(∀ k,w.heap.size≤k→k<w'.heap.size→k∉muts [] R→w''.heap[k]?=w'.heap[k]?)→φ w''
inductive Args (R:List RowD) (F:List (World→Prop)):List (World→Prop)→Prop
 | nil:Args R F []
 | consF {φ:World→Prop} {Φ:List (World→Prop)} (j:Nat) (h:F[j]?=some φ) (ha:Args R F Φ):Args R F (φ::Φ)
 | consR {Φ:List (World→Prop)} (j:Nat) (rd:RowD) (h:R[j]?=some rd) (ha:Args R F Φ):Args R F (Cells rd.v rd.n rd.size rd.cs::Φ)
 | consG {φ:World→Prop} {Φ:List (World→Prop)} (j:Nat) {rd:RowD} (h:R[j]?=some rd) (hφ:∀ w,rd.owns w→φ w) (ha:Args R F Φ):Args R F (φ::Φ)
theorem Args.ok {Φ:List (World→Prop)}(ha:Args R F Φ)(hp:Hp M0 w0 w B R F):∀ φ∈Φ,Nec w [] φ:=by
 induction ha with
 | nil=>simp
 | consF j h _ ih =>
  intro φ hφ
  rcases qBp.1 hφ with rfl | hφ
  ·exact (hp.per _ (qBl h)).less (by simp)
  simp_all
 | consR j rd h _ ih =>
  intro φ hφ
  rcases qBp.1 hφ with rfl | hφ
  ·intro w' hk
   exact Cells.keeps (zd (hp.row _ (qBl h))) hk (by simp)
  simp_all
 | consG j h hg _ ih =>
  intro φ hφ
  rcases qBp.1 hφ with rfl | hφ
  ·intro w' hk
   exact hg w' (v6 (hp.rows _ (qBl h)) hk (by simp))
  simp_all
theorem Hp.start {Φ:List (World→Prop)}(h:∀ φ∈Φ,Nec w [] φ):Hp [] w w [] [] Φ :=
 ⟨Keeps.refl _ _,by simp,by simp,by simp[muts],by simp[muts],fun φ hφ=>(h φ hφ).less (by simp[muts])⟩
theorem qhp {R1 R2:List RowD}:(muts B (R1++R2)).Perm (muts [] R1++muts B R2):=by
 grind [muts]
theorem Hp.call {R1:List RowD}{F1:List (World→Prop)}(h:Hp M0 w0 w B R F)(hr:Ret w w' R1 F1):Hp M0 w0 w' B (R1++R) (F1++F):=by
 have h1:Hp M0 w0 w' B (R1++R) F:=by
  refine h.turn [] hr.keep (by simp) (fun b hb=>qbI (h.blk b hb) hr.keep (by simp)) (fun r0 h0=>?_) ?_ ?_
  ·rcases qBn.1 h0 with h0 | h0
   ·exact hr.rows r0 h0
   ·exact v6 (h.rows r0 h0) hr.keep (by simp)
  ·refine qhp.nodup_iff.2 (qB3.2 ⟨hr.nodup,h.nodup,fun a ha b hb=>?_⟩)
   have:=hr.fresh a ha
   have:=h.lt b hb
   omega
  ·intro g hg
   rcases qBn.1 (qhp.mem_iff.1 hg) with h2 | h2
   ·exact .inr (hr.fresh g h2)
   simp_all
 refine { h1 with per:=fun φ hφ=>?_ }
 rcases qBn.1 hφ with h2 | h2
 ·intro w'' hk
  refine hr.per φ h2 w'' fun k hk1 hk2 hk3=>hk.block k hk2 fun hm=>?_
  rcases qBn.1 (qhp.mem_iff.1 hm) with h3 | h3
  ·simp_all
  ·have:=h.lt k h3;omega
 ·exact h1.per φ h2
def Pure (P:Program)(f:FuncId)(vs:List Value)(Φ:List (World→Prop))(γ:Type)(V:γ→Value)(RW:γ→List RowD)(PH:γ→List (World→Prop)):Prop :=
 ∀ w,Hp [] w w [] [] Φ→Calls P f vs.toArray w fun e w'=>∃ g:γ,e=.returned (V g)∧Ret w w' (RW g) (PH g)
theorem qlA {xs:Array Operand}{tys:Array TypeId}{dst:Option Tmp}(hf:Fr n D a l)(he:Enters P f)(hx:evArgs l xs.toList=some vs) :
  (execOp a.eval ⟨dst,.call ⟨.value (.func f),xs,tys⟩,t,pos,af,gd⟩).run P w=.ok (.enter f vs.toArray) w:=by
 have h1:a.eval (.func f)=.func (.func f) #[] #[]:=rfl
 have h2:=hf.evArgs hx
 have h3:xs.map a.eval=vs.toArray:=by grind
 have h4:=he vs.toArray w
 generalize a.eval=ε at h1 h3 ⊢
 simp[execOp,resolve,h1,h3,Deferred.ofValue,invoke,h4]
theorem yY {γ:Type}{mg:Option α}{k:α→Option ρ}{xs:Array Operand}{tys:Array TypeId}{Φ:List (World→Prop)}{V:α→γ→Value}{RW:α→γ→List RowD}{PH:α→γ→List (World→Prop)}(he:Enters P f)(hw:wants ops l ⟨some d,.call ⟨.value (.func f),xs,tys⟩,t,pos,af,gd⟩=some true)(hx:evArgs l xs.toList=some vs)(hd:Nat.blt d n=true)(hC:∀ y,mg=some y→Pure P f vs Φ γ (V y) (RW y) (PH y))(ha:Args R F Φ)(h:∀ y,mg=some y→∀ g,SXO P ro n D M0 w0 Q ops rest ((d,V y g)::l) B (RW y g++R) (PH y g++F) (k y) r) :
  SXO P ro n D M0 w0 Q ops (⟨some d,.call ⟨.value (.func f),xs,tys⟩,t,pos,af,gd⟩::rest) l B R F (mg.bind k) r:=by
 intro hm a w hf hp
 cases hq:mg with
 | none=>simp_all
 | some y =>
  rw[hq] at hm
  have hm':k y=some r:=by grind
  refine qdd (zg hf hw) (yN hw) (qlA hf he hx) ((hC y hq w (Hp.start (ha.ok hp))).mono fun e w' ⟨g,h1,h2⟩=>⟨V y g,h1,?_⟩)
  exact h y hq g hm' _ _ (hf.put hd _) (hp.call h2)
variable {c x y:Code}
theorem qP {os:List Oper}(h:SXO P ro n D M0 w0 Q os.toArray os l B R F m r):SXC P ro n D M0 w0 Q (.region id os.toArray false) l B R F m r :=
 fun hm a w hf hp=>wpIn_region_lit (h hm a w hf hp)
theorem kj (h:SXC P ro n D M0 w0 (Exit.then (gwp ro P y Q) Q) x l B R F m r):SXC P ro n D M0 w0 Q (.seq x y) l B R F m r :=
 fun hm a w hf hp=>wpIn_seq (h hm a w hf hp)
theorem k8 {co:Operand}{b:Bool}(hc:ev l co=some (.bool b))(h1:b=true→SXC P ro n D M0 w0 Q x l B R F m r)(h2:b=false→SXC P ro n D M0 w0 Q y l B R F m r):SXC P ro n D M0 w0 Q (.cond co x y) l B R F m r:=by
 intro hm a w hf hp
 refine wpIn_cond_split (hf.ev hc) (fun hb=>h1 hb hm a w hf hp) (fun hb=>h2 hb hm a w hf hp)
theorem qj1 {co:Operand}{b:Bool}{m1 m2:Option ρ}(hc:ev l co=some (.bool b))(h1:b=true→SXC P ro n D M0 w0 Q x l B R F m1 r)(h2:b=false→SXC P ro n D M0 w0 Q y l B R F m2 r) :
  SXC P ro n D M0 w0 Q (.cond co x y) l B R F (if b then m1 else m2) r:=by
 refine k8 hc (fun hb=>?_) (fun hb=>?_)
 ·subst hb;exact fun hm=>h1 rfl (by simpa using hm)
 ·subst hb;exact fun hm=>h2 rfl (by simpa using hm)
theorem qgt (h:SXC P ro n D M0 w0 (Exit.inBlock id Q) c l B R F m r):SXC P ro n D M0 w0 Q (.block id c) l B R F m r :=
 fun hm a w hf hp=>wpIn_block (h hm a w hf hp)
theorem qhx (h:SXQ n D M0 w0 Q .normal l B R F m r):SXC P ro n D M0 w0 Q .skip l B R F m r:=fun hm a w hf hp=>wpIn_skip (h hm a w hf hp)
theorem qpY (h:SXQ n D M0 w0 Q (.exit id) l B R F m r):SXC P ro n D M0 w0 Q (.exit id) l B R F m r:=fun hm a w hf hp=>wpIn_exit (h hm a w hf hp)
theorem qoh (h:SXQ n D M0 w0 Q .ret l B R F m r):SXC P ro n D M0 w0 Q .ret l B R F m r:=fun hm a w hf hp=>wpIn_ret (h hm a w hf hp)
theorem zx {K:Exit→Act→World→Prop}(h:SXC P ro n D M0 w0 Q y l B R F m r):SXQ n D M0 w0 (Exit.then (gwp ro P y Q) K) .normal l B R F m r:=h
theorem qj7 {K:Act→World→Prop}(h:SXQ n D M0 w0 Q (.exit id) l B R F m r):SXQ n D M0 w0 (Exit.then K Q) (.exit id) l B R F m r:=h
theorem quk {K:Act→World→Prop}(h:SXQ n D M0 w0 Q .ret l B R F m r):SXQ n D M0 w0 (Exit.then K Q) .ret l B R F m r:=h
theorem qee (h:SXQ n D M0 w0 Q .normal l B R F m r):SXQ n D M0 w0 (Exit.inBlock id Q) .normal l B R F m r:=h
theorem qwW (h:SXQ n D M0 w0 Q .ret l B R F m r):SXQ n D M0 w0 (Exit.inBlock id Q) .ret l B R F m r:=h
theorem qp8 (h:SXQ n D M0 w0 Q .normal l B R F m r):SXQ n D M0 w0 (Exit.inBlock id Q) (.exit id) l B R F m r:=by
 intro hm a w hf hp
 show if id=id then _ else _
 rw[if_pos rfl]
 exact h hm a w hf hp
theorem qdj (I:S→Env)(IB:S→List BlkD)(IR:S→List RowD)(IF:S→List (World→Prop))(mj:S→Option ρ)(hx:SXC P ro n D M0 w0 (Exit.then (fun a w=>∃ s,mj s=some r∧Fr n D a (I s)∧Hp M0 w0 w (IB s) (IR s) (IF s)) Q) x l B R F m r)(hy:∀ s,SXC P ro n D M0 w0 Q y (I s) (IB s) (IR s) (IF s) (mj s) r):SXC P ro n D M0 w0 Q (.seq x y) l B R F m r:=by
 intro hm a w hf hp
 refine wpIn_seq (qi5 (hx hm a w hf hp) fun e a' w' hq=>?_)
 cases e with
 | normal=>obtain ⟨s,h1,h2,h3⟩:=hq;exact hy s h1 a' w' h2 h3
 | _=>exact hq
theorem qrF (I:Nat→Act→World→Prop)(h0:∃ k,I k a w)(round:∀ k a w,I k a w→gwp ro P c (Exit.then (fun a' w'=>∃ k'<k,I k' a' w') Q) a w):gwp ro P (Code.loop c) Q a w:=by
 let J:Act→World→Prop:=fun a w=>∃ k,I k a w
 have least:∀ (p:Nat→Prop) (b k:Nat),k≤b→p k→∃ k,p k∧∀ j,p j→k≤j:=by
  intro p b
  induction b with
  | zero=>grind
  | succ b ih =>
   grind
 have least':∀ (a:Act) (w:World),∃ k,J a w→I k a w∧∀ j,I j a w→k≤j:=by
  intro a w
  by_cases hJ:J a w
  ·obtain ⟨k,hk⟩:=hJ
   obtain ⟨k',h1,h2⟩:=least (fun k=>I k a w) k k (qBw _) hk
   grind
  simp_all
 refine wpIn_loop J (fun a w=>Classical.choose (least' a w)) h0 fun a w hJ=>?_
 have hf:=qDn (least' a w) hJ
 refine qi5 (round _ a w hf.1) fun e a' w' hq=>?_
 cases e with
 | normal =>
  obtain ⟨k',hlt,hk'⟩:=hq
  refine ⟨⟨k',hk'⟩,?_⟩
  exact Nat.lt_of_le_of_lt ((qDn (least' a' w') ⟨k',hk'⟩).2 k' hk') hlt
 | _=>exact hq
theorem qx8 {Φ:List (World→Prop)}{γ:Type}{V:γ→Value}{RW:γ→List RowD}{PH:γ→List (World→Prop)}{N:Nat}(hfn:P.funcs[f]?=some fn)(hb:fn.body=some c)(hn:fn.ntmps=N)(hvl:Nat.ble vs.length N=true)(hm:m=some r)(h:∀ w,SXC P none N [] [] w (bodyPost P fn fun e w'=>∃ g:γ,e=.returned (V g)∧Ret w w' (RW g) (PH g)) c (vs.zipIdx.map fun p=>(p.2,p.1)) [] [] Φ m r):Pure P f vs Φ γ V RW PH:=by
 intro w hp
 refine calls_of_wp hfn hb (qhl.1 (h w hm _ w ?_ hp))
 have hvl':vs.length≤N:=by simp_all
 refine ⟨rfl,by simp_all,fun i v hv=>?_⟩
 have key:∀ (vs:List Value) (k i:Nat) (v:Value),look ((vs.zipIdx k).map fun p=>(p.2,p.1)) i=some v→k≤i∧vs[i-k]?=some v:=by
  intro vs
  induction vs with
  | nil=>intro k i v hv;simp[look] at hv
  | cons u vs ih =>
   intro k i v hv
   simp only[qCA,qB2] at hv
   rw[qab] at hv
   split at hv
   ·simp_all
   grind
 grind
theorem Hp.ret (hp:Hp [] w w' B R F)(hR:R'.Sublist R):Ret w w' R' []:=by
 have h:=hp.weaken (B':=[]) (R':=R') (F':=[]) (List.nil_sublist _) hR (by simp)
 exact ⟨h.keep,h.rows,h.nodup,fun g hg=>(h.fresh g hg).resolve_left (by simp),by simp⟩
theorem res1 {t1:Tmp}{v1:Value}(h:fn.results=#[.tmp t1])(h1:look l t1=some v1):∀ a w',Fr n [] a l→Hp M0 w w' B R F→(results fn a.tmps).run P w'=.ok v1 w':=by
 intro a w' hf _
 rw[results_tmp h]
 have:=hf.val _ _ h1
 simp_all
theorem res2 {t1 t2:Tmp}{v1 v2:Value}(h:fn.results=#[.tmp t1,.tmp t2])(h1:look l t1=some v1)(h2:look l t2=some v2):∀ a w',Fr n [] a l→Hp M0 w w' B R F→(results fn a.tmps).run P w'=.ok (.tuple #[v1,v2]) w':=by
 intro a w' hf _
 rw[results_tmp2 h]
 have e1:=hf.val _ _ h1
 have e2:=hf.val _ _ h2
 simp_all
theorem res3 {t1 t2 t3:Tmp}{v1 v2 v3:Value}(h:fn.results=#[.tmp t1,.tmp t2,.tmp t3])(h1:look l t1=some v1)(h2:look l t2=some v2)(h3:look l t3=some v3):∀ a w',Fr n [] a l→Hp M0 w w' B R F→(results fn a.tmps).run P w'=.ok (.tuple #[v1,v2,v3]) w':=by
 intro a w' hf _
 rw[results_tmp3 h]
 have e1:=hf.val _ _ h1
 have e2:=hf.val _ _ h2
 have e3:=hf.val _ _ h3
 simp_all
theorem qvM {enc:α→List Value}{v:Value}(h:(Ro enc e size v xs).own w):∃ a c,v=.slice a xs.length c:=by
 obtain ⟨⟨a,cap,hv,_⟩,_⟩:=zd h
 exact ⟨a,cap,hv⟩
theorem Hp.rowForm (hp:Hp M0 w0 w B R F){enc:α→List Value}{v:Value}(h:R[j]?=some (Ro enc e size v xs)):∃ a c,v=.slice a xs.length c:=qvM (hp.row _ (qBl h))
theorem qjm {enc:α→List Value}{v:Value}(hR:R[0]?=some (Ro enc e size v xs))(h:∀ a c,v=.slice a xs.length c→SXO P ro n D M0 w0 Q ops rest l B R F m r):SXO P ro n D M0 w0 Q ops rest l B R F m r :=
 fun hm a w hf hp=>by
  obtain ⟨ao,c,hv⟩:=hp.rowForm hR
  exact h ao c hv hm a w hf hp
theorem qud {enc:α→List Value}{v:Value}(hF:F[0]?=some (Sl enc size v xs))(h:∀ a c,v=.slice a xs.length c→SXO P ro n D M0 w0 Q ops rest l B R F m r):SXO P ro n D M0 w0 Q ops rest l B R F m r :=
 fun hm a w hf hp=>by
  obtain ⟨⟨ao,c,hv,_⟩,_⟩:=((hp.per _ (qBl hF)).here:Cells v xs.length size (xs.flatMap enc) w)
  exact h ao c hv hm a w hf hp
theorem qaX {enc:α→List Value}{len:Nat}(henc:EncOk enc size)(hs0:size≠0)(hw:wants ops l ⟨some d,.buildSlice t' len parts,t,pos,af,gd⟩=some true)(ht:P.underlying t'=some (.slice e))(hT:TyF P e agg z size bytes)(hzs:z.cells.size=size)(hd:Nat.blt d n=true)(hp:evParts l parts.toList=some (vs.zipIdx.map fun p=>(p.2,p.1)))(hys:vs.map (fun v=>v.cells.toList)=ys.map enc)(hl:len=ys.length)(hbig:len*size≤16777216)(h:∀ a c,SXO P ro n D M0 w0 Q ops rest ((d,.slice a ys.length c)::l) B (Ro enc e size (.slice a ys.length c) ys::R) F m r) :
  SXO P ro n D M0 w0 Q ops (⟨some d,.buildSlice t' len parts,t,pos,af,gd⟩::rest) l B R F m r :=
 qlN henc hs0 hw ht hT hzs hd hp hys hl hbig fun _=>qjm rfl fun a c hv=>by simp_all
theorem zo {enc:α→List Value}{k:List α→Option ρ}{s x:Operand}{v u:Value}(i:Nat)(henc:EncOk enc size)(hw:wants ops l ⟨some d,.call ⟨.builtin .append,#[s,x],#[t',t']⟩,t,pos,af,gd⟩=some true)(ht:P.underlying t'=some (.slice e))(hT:TyF P e agg z size bytes)(hzs:z.cells.size=size)(hd:Nat.blt d n=true)(hs:ev l s=some v)(hx:ev l x=some u)(hR:R[i]?=some (Ro enc e size v xs))(hu:(∃ (j:Nat) (e':TypeId),R[j]?=some (Ro enc e' size u ys))∨(∃ (j:Nat),F[j]?=some (Sl enc size u ys)))(hlim:Nat.ble lim 9223372036854775807=true)(hlb:Nat.ble (lim*bytes) 140737488355328=true)(h:∀ zs,app lim xs ys=some zs→∀ a c,SXO P ro n D M0 w0 Q ops rest ((d,.slice a zs.length c)::l) B (Ro enc e size (.slice a zs.length c) zs::R.eraseIdx i) F (k zs) r) :
  SXO P ro n D M0 w0 Q ops (⟨some d,.call ⟨.builtin .append,#[s,x],#[t',t']⟩,t,pos,af,gd⟩::rest) l B R F ((app lim xs ys).bind k) r :=
 qrl i henc hw ht hT hzs hd hs hx hR hu (qBZ hlim) (qBZ hlb) fun zs hz _=>qjm rfl fun a c hv=>by simp_all
theorem qwR {enc:α→List Value}{y:α}{k:List α→Option ρ}{x c:Operand}{kl kc:IntKind}{i:Int}(henc:EncOk enc 1)(hw:wants ops l ⟨some d,.makeSlice t' x c,t,pos,af,gd⟩=some true)(ht:P.underlying t'=some (.slice e))(hT:TyF P e agg z 1 bytes)(hx:ev l x=some (.int kl i))(hc:ev l c=some (.int kc i))(hz:z.cells=#[z])(hy:enc y=[z])(hlim:Nat.ble lim 9223372036854775807=true)(hlb:Nat.ble (lim*bytes) 281474976710656=true)(hd:Nat.blt d n=true)(h:∀ ys,mk lim y i=some ys→∀ a c,SXO P ro n D M0 w0 Q ops rest ((d,.slice a ys.length c)::l) B (Ro enc e 1 (.slice a ys.length c) ys::R) F (k ys) r) :
  SXO P ro n D M0 w0 Q ops (⟨some d,.makeSlice t' x c,t,pos,af,gd⟩::rest) l B R F ((mk lim y i).bind k) r :=
 qwQ henc hw ht hT hx hc hz hy (qBZ hlim) (qBZ hlb) hd fun ys hys _=>qjm rfl fun a c hv=>by simp_all
theorem qok {enc:α→List Value}{k:List α→Option ρ}{x:Operand}{lo hi:Option Operand}{li hj:Int}{v:Value}(henc:EncOk enc size)(hw:wants ops l ⟨some d,.slice t' x lo hi none,t,pos,af,gd⟩=some true)(ht:P.underlying t'=some (.slice e))(hT:TyF P e agg z size bytes)(hx:ev l x=some v)(hlo:evOpt l lo 0=some li)(hhi:evOpt l hi (xs.length:Int)=some hj)(hF:F[j]?=some (Sl enc size v xs))(hd:Nat.blt d n=true)(h:∀ ys,sub xs li hj=some ys→∀ a c,SXO P ro n D M0 w0 Q ops rest ((d,.slice a ys.length c)::l) B R (Sl enc size (.slice a ys.length c) ys::F) (k ys) r) :
  SXO P ro n D M0 w0 Q ops (⟨some d,.slice t' x lo hi none,t,pos,af,gd⟩::rest) l B R F ((sub xs li hj).bind k) r :=
 qwJ henc hw ht hT hx hlo hhi hF hd fun ys hys _=>qud rfl fun a c hv=>by simp_all
theorem zT {x:Operand}{ad:Addr}(hw:wants ops l ⟨some d,.nilCheck x,t,pos,af,gd⟩=some true)(hx:ev l x=some (.pointer (some ad)))(hd:Nat.blt d n=true)(h:SXO P ro n D M0 w0 Q ops rest ((d,.pointer (some ad))::l) B R F m r):SXO P ro n D M0 w0 Q ops (⟨some d,.nilCheck x,t,pos,af,gd⟩::rest) l B R F m r :=
 qK _ hw rfl hd (fun a w hf _=>by
  have h1:=hf.ev hx
  generalize a.eval=ε at h1 ⊢
  simp[execOp,h1]) h
class StF (P:Program) (t:TypeId) (places:outParam (List (Nat×Nat))) (z:outParam Value):Prop where
 out:∃ fs,P.underlying t=some (.struct fs)∧(fs.toList.map fun f=>(f.offset,P.cellsOf f.type))=places∧(∀ f∈fs.toList,∃ i,P.info? f.type=some i)
 zero:∃ i,P.info? t=some i∧i.zero=some z
theorem StF.of (h:(match P.underlying t with | some (.struct fs)=>(fs.toList.map fun f=>(f.offset,P.cellsOf f.type)) == places && fs.toList.all (fun f=>(P.info? f.type).isSome) | _=>false)=true:=by kernel_rfl)(h':(P.info? t).map (fun i=>i.zero)=some (some z):=by kernel_rfl):StF P t places z:=by
 split at h
 ·rename_i fs hfs
  simp only[qB6,beq_iff_eq,qBX] at h
  refine ⟨⟨fs,hfs,h.1,fun f hf=>Option.isSome_iff_exists.1 (h.2 f hf)⟩,qCD.1 h'⟩
 simp_all
theorem qll:∀ (fs:List Field),(∀ f∈fs,∃ i,P.info? f.type=some i)→(fs.mapM (fun f=>Functor.map (Prod.mk f.offset) (Go.sizeOf f.type)):Sem (List (Nat×Nat))).run P w=.ok (fs.map fun f=>(f.offset,P.cellsOf f.type)) w:=by
 intro fs
 induction fs with
 | nil=>simp
 | cons f fs ih =>
  intro h
  obtain ⟨i,hi⟩:=h f (by simp)
  have ih':=ih fun g hg=>h g (by grind)
  simp only[List.mapM_cons]
  generalize (fs.mapM (fun f=>Functor.map (Prod.mk f.offset) (Go.sizeOf f.type)):Sem (List (Nat×Nat)))=q at ih'
  simp[Go.sizeOf,typeInfo,hi,ih',Program.cellsOf]
theorem qt7 {vs:List (Nat×Value)}{cells:List Value}(hw:wants ops l ⟨some d,.build t' parts,t,pos,af,gd⟩=some true)(hS:StF P t' places z)(hp:evParts l parts.toList=some vs)(hfill:Instr.fill (places.toArray[·]?) z.cells vs=some cells.toArray)(hd:Nat.blt d n=true)(h:SXO P ro n D M0 w0 Q ops rest ((d,.agg cells.toArray)::l) B R F m r):SXO P ro n D M0 w0 Q ops (⟨some d,.build t' parts,t,pos,af,gd⟩::rest) l B R F m r :=
 qK _ hw rfl hd (fun a w hf _=>by
  have hpe:=hf.evParts hp
  have hpa:(parts.map fun p=>(p.1,a.eval p.2))=vs.toArray:=by grind
  obtain ⟨fs,hu,hpl,hin⟩:=hS.out
  obtain ⟨i,hi,hz⟩:=hS.zero
  have hm:=qll (P:=P) (w:=w) fs.toList hin
  rw[hpl] at hm
  have hm':(fs.mapM (fun f=>Functor.map (Prod.mk f.offset) (Go.sizeOf f.type)):Sem (Array (Nat×Nat))).run P w=.ok places.toArray w:=by
   rw[Array.mapM_eq_mapM_toList]
   simp_all
  generalize a.eval=ε at hpa ⊢
  simp only[execOp,hpa,Instr.build]
  have hfill':Instr.fill (fun x=>places.toArray[x]?) z.cells vs=some cells.toArray:=hfill
  generalize hq:(fs.mapM (fun f=>Functor.map (Prod.mk f.offset) (Go.sizeOf f.type)):Sem (Array (Nat×Nat)))=q at hm'
  simp[zeroValue,typeInfo,hi,hz,run_underlying hu,hq,hm']
  simp_all) h
theorem qdB:∀ p∈([]:Env),look l p.1=some p.2:=by simp
theorem qk {k:Nat}{v:Value}{r:Env}(h:look l k=some v)(hr:∀ p∈r,look l p.1=some p.2):∀ p∈((k,v)::r),look l p.1=some p.2:=by
 grind
theorem zB:∀ φ∈([]:List (World→Prop)),φ∈F:=by simp
theorem qi {r:List (World→Prop)}(j:Nat)(h:F[j]?=some φ)(hr:∀ φ∈r,φ∈F):∀ ψ∈(φ::r),ψ∈F:=by
 grind
inductive Pick {α:Type}:List α→List α→Prop
 | nil {R:List α}:Pick R []
 | cons {R R':List α} {r:α} (i:Nat) (h:R[i]?=some r) (hp:Pick (R.eraseIdx i) R'):Pick R (r::R')
theorem Pick.perm {R R':List α}(h:Pick R R'):∃ S,R.Perm (R'++S):=by
 induction h with
 | nil=>exact ⟨_,qBM _⟩
 | cons i h _ ih =>
  obtain ⟨S,hS⟩:=ih
  obtain ⟨R1,R2,rfl,he⟩:=qed h
  rw[he] at hS
  refine ⟨S,List.perm_middle.trans ?_⟩
  simp_all
theorem Hp.pick {B' : List BlkD}{F' : List (World → Prop)}(h : Hp M0 w0 w B R F)(hB : Pick B B')(hR : Pick R R')(hF : ∀ φ ∈ F', φ ∈ F) : Hp M0 w0 w B' R' F' := by
  obtain ⟨S, hS⟩ := hR.perm
  obtain ⟨T, hT⟩ := hB.perm
  have hp : (muts B R).Perm (muts (B' ++ T) (R' ++ S)) := (hT.map _).append (hS.flatMap_right _)
  have h2 : Hp M0 w0 w (B' ++ T) (R' ++ S) F :=
    { keep := h.keep, blk := fun b hb => h.blk b (hT.mem_iff.2 hb), rows := fun r hr => h.rows r (hS.mem_iff.2 hr), nodup := hp.nodup_iff.1 h.nodup,
      fresh := fun g hg => h.fresh g (hp.mem_iff.2 hg), per := fun φ hφ => (h.per φ hφ).less fun k hk => hp.mem_iff.2 hk }
  exact h2.weaken (List.sublist_append_left _ _) (List.sublist_append_left _ _) hF
theorem ya {I:S→Env}{IB:S→List BlkD}{IR:S→List RowD}{IF:S→List (World→Prop)}{mj:S→Option ρ}{K:Exit→Act→World→Prop}(s:S)(hI:∀ p∈I s,look l p.1=some p.2:=by repeat (first | exact qdB | refine qk rfl ?_))(hB:Pick B (IB s):=by exact .nil)(hR:Pick R (IR s):=by exact .nil)(hF:∀ φ∈IF s,φ∈F:=by exact zB) :
  SXQ n D M0 w0 (Exit.then (fun a w=>∃ s,mj s=some r∧Fr n D a (I s)∧Hp M0 w0 w (IB s) (IR s) (IF s)) K) .normal l B R F (mj s) r :=
 fun hm _ _ hf hp=>⟨s,hm,hf.less hI,hp.pick hB hR hF⟩
theorem vn {I:S→Env}{IB:S→List BlkD}{IR:S→List RowD}{IF:S→List (World→Prop)}{ml:Nat→S→Option ρ}{K:Exit→Act→World→Prop}{k:Nat}(s:S)(hI:∀ p∈I s,look l p.1=some p.2:=by repeat (first | exact qdB | refine qk rfl ?_))(hB:Pick B (IB s):=by exact .nil)(hR:Pick R (IR s):=by exact .nil)(hF:∀ φ∈IF s,φ∈F:=by exact zB) :
  SXQ n D M0 w0 (Exit.then (fun a w=>∃ k'<k+1,∃ s,ml k' s=some r∧Fr n D a (I s)∧Hp M0 w0 w (IB s) (IR s) (IF s)) K) .normal l B R F (ml k s) r :=
 fun hm _ _ hf hp=>⟨k,Nat.lt_succ_self k,s,hm,hf.less hI,hp.pick hB hR hF⟩
theorem vy (I:S→Env)(IB:S→List BlkD)(IR:S→List RowD)(IF:S→List (World→Prop))(ml:Nat→S→Option ρ)(s0:S)(k0:Nat)(hround:∀ k s,SXC P ro n D M0 w0 (Exit.then (fun a w=>∃ k'<k+1,∃ s,ml k' s=some r∧Fr n D a (I s)∧Hp M0 w0 w (IB s) (IR s) (IF s)) Q) c (I s) (IB s) (IR s) (IF s) (ml (k+1) s) r)(hI:∀ p∈I s0,look l p.1=some p.2:=by repeat (first | exact qdB | refine qk rfl ?_))(hB:Pick B (IB s0):=by exact .nil)(hR:Pick R (IR s0):=by exact .nil)(hF:∀ φ∈IF s0,φ∈F:=by exact zB)(hz:∀ s,ml 0 s=none:=by exact fun _=>rfl) :
  SXC P ro n D M0 w0 Q (.loop c) l B R F (ml k0 s0) r:=by
 intro hm a w hf hp
 refine qrF (fun k a w=>∃ s,ml k s=some r∧Fr n D a (I s)∧Hp M0 w0 w (IB s) (IR s) (IF s)) ⟨k0,s0,hm,hf.less hI,hp.pick hB hR hF⟩ fun k a w hI=>?_
 obtain ⟨s,h1,h2,h3⟩:=hI
 cases k with
 | zero=>simp_all
 | succ k=>exact hround k s h1 a w h2 h3
theorem Hp.retP (hp:Hp [] w w' B R F)(hR:Pick R R'):Ret w w' R' []:=by
 have h:=hp.pick (B':=[]) (R':=R') (F':=[]) .nil hR (by simp)
 exact ⟨h.keep,h.rows,h.nodup,fun g hg=>(h.fresh g hg).resolve_left (by simp),by simp⟩
theorem qhN {γ:Type}{V:γ→Value}{RW:γ→List RowD}{x:ρ}{e:Exit}(g:γ){v:Value}(hres:∀ a w',Fr n [] a l→Hp [] w w' B R F→(results fn a.tmps).run P w'=.ok v w')(hR:x=r→Pick R (RW g):=by intro h;subst h;exact .nil)(hv:x=r→v=V g:=by intro h;subst h;rfl)(he:e=.ret∨e=.normal:=by first | exact .inl rfl | exact .inr rfl) :
  SXQ n [] [] w (bodyPost P fn fun e w'=>∃ g:γ,e=.returned (V g)∧Ret w w' (RW g) []) e l B R F (some x) r:=by
 intro hm a w' hf hp
 have hx:x=r:=by grind
 have:∃ v,(results fn a.tmps).run P w'=.ok v w'∧∃ g:γ,Ending.returned v=.returned (V g)∧Ret w w' (RW g) [] :=
  ⟨v,hres a w' hf hp,g,by grind,hp.retP (hR hx)⟩
 rcases he with rfl | rfl
 ·exact ⟨hf.defers,this⟩
 ·exact ⟨hf.defers,this⟩
theorem res0 (h:fn.results=#[]):∀ a w',Fr n [] a l→Hp M0 w w' B R F→(results fn a.tmps).run P w'=.ok (.tuple #[]) w':=by
 grind [results_none]
theorem qaJ {m':Option ρ}(h:m=m')(hs:SXC P ro n D M0 w0 Q c l B R F m' r):SXC P ro n D M0 w0 Q c l B R F m r:=h▸hs
theorem qog {l':Env}(h:l=l')(hs:SXC P ro n D M0 w0 Q c l' B R F m r):SXC P ro n D M0 w0 Q c l B R F m r:=h▸hs
theorem qdD (α:Type)(enc:α→List Value)(e:TypeId)(size:Nat)(h:SXC P ro n D M0 w0 Q c l B (Ro enc e size (.slice none 0 0) ([]:List α)::R) F m r):SXC P ro n D M0 w0 Q c l B R F m r :=
 fun hm a w hf hp=>h hm a w hf (hp.addRow (Keeps.refl _ _) ⟨by simp[Ro],.inl ⟨rfl,rfl⟩⟩ (by simp[Ro,Value.ownBlock]))
theorem qfp {ex:Exit}(α:Type)(enc:α→List Value)(e:TypeId)(size:Nat)(h:SXQ n D M0 w0 Q ex l B (Ro enc e size (.slice none 0 0) ([]:List α)::R) F m r):SXQ n D M0 w0 Q ex l B R F m r :=
 fun hm a w hf hp=>h hm a w hf (hp.addRow (Keeps.refl _ _) ⟨by simp[Ro],.inl ⟨rfl,rfl⟩⟩ (by simp[Ro,Value.ownBlock]))
theorem qfF (α:Type)(enc:α→List Value)(e:TypeId)(size:Nat)(h:SXO P ro n D M0 w0 Q ops rest l B (Ro enc e size (.slice none 0 0) ([]:List α)::R) F m r):SXO P ro n D M0 w0 Q ops rest l B R F m r :=
 qru enc e size h
theorem Oper.uponIn_mono {K K':Act→World→Prop}{Q':Exit→Act→World→Prop}(hK:∀ a w,K a w→K' a w)(hQ:∀ c a w,Q (.panic c) a w→Q' (.panic c) a w)(hout:LetsOut Q→LetsOut Q') :
  ∀ x,o.uponIn (Wd ro) 0 P a K Q x→o.uponIn (Wd ro) 0 P a K' Q' x:=by
 intro x h
 cases x with
 | halt y w=>cases y <;> first | exact hQ _ _ _ h | exact h
 | ok y w =>
  cases y with
  | value v=>exact hK _ _ h
  | skip=>exact hK _ _ h
  | defer d=>exact hK _ _ h
  | enter f args =>
   refine ⟨h.1,h.2.mono fun e w' he=>?_⟩
   grind
  | row row args=>exact ⟨h.1,h.2.mono fun v w' he=>hK _ _ he⟩
  | round l f tmps assign body =>
   refine ⟨h.1,h.2.mono fun e w' he=>?_⟩
   grind
  | _=>exact h
theorem qnM {Q':Exit→Act→World→Prop}(hQ:∀ e a w,Q e a w→Q' e a w):∀ (os:List Oper) (a:Act) (w:World),ke ro P ops Q os a w→ke ro P ops Q' os a w:=by
 intro os
 induction os with
 | nil=>intro a w h;exact hQ _ _ _ h
 | cons o os ih =>
  intro a w h
  unfold ke wpListIn at h ⊢
  split
  ·rename_i hw
   rw[if_pos hw] at h
   exact ⟨h.1,Oper.uponIn_mono (fun a w=>ih a w) (fun c=>hQ _) (fun ⟨a,w,h⟩=>⟨a,w,hQ _ _ _ h⟩) _ h.2⟩
  ·rename_i hw
   rw[if_neg hw] at h
   exact ⟨h.1,ih _ _ h.2⟩
theorem qlb:∀ (os1:List Oper) (a:Act) (w:World),ke ro P ops (Exit.then (ke ro P ops Q os2) Q) os1 a w→ke ro P ops Q (os1++os2) a w:=by
 intro os1
 induction os1 with
 | nil=>intro a w h;exact h
 | cons o os ih =>
  intro a w h
  rw[qCb]
  unfold ke wpListIn at h ⊢
  split
  ·rename_i hw
   rw[if_pos hw] at h
   exact ⟨h.1,Oper.uponIn_mono (fun a w=>ih a w) (fun c a w h=>h) (fun h=>h) _ h.2⟩
  ·rename_i hw
   rw[if_neg hw] at h
   exact ⟨h.1,ih _ _ h.2⟩
theorem qlO (k:Nat)(I:S→Env)(IB:S→List BlkD)(IR:S→List RowD)(IF:S→List (World→Prop))(mj:S→Option ρ)(hx:SXO P ro n D M0 w0 (Exit.then (fun a w=>∃ s,mj s=some r∧Fr n D a (I s)∧Hp M0 w0 w (IB s) (IR s) (IF s)) Q) ops (rest.take k) l B R F m r)(hy:∀ s,SXO P ro n D M0 w0 Q ops (rest.drop k) (I s) (IB s) (IR s) (IF s) (mj s) r):SXO P ro n D M0 w0 Q ops rest l B R F m r:=by
 intro hm a w hf hp
 rw[← qCk k rest]
 refine qlb _ a w (qnM (fun e a w hq=>?_) _ _ _ (hx hm a w hf hp))
 cases e with
 | normal=>obtain ⟨s,h1,h2,h3⟩:=hq;exact hy s h1 a w h2 h3
 | _=>exact hq
theorem qC {os:List Oper}(h:rest=os)(hs:SXO P ro n D M0 w0 Q ops os l B R F m r):SXO P ro n D M0 w0 Q ops rest l B R F m r:=h▸hs
theorem qjl (k:Nat)(b:Bool)(I:Env)(h1:b=true→SXO P ro n D M0 w0 (Exit.then (fun a w=>∃ _s:Unit,m=some r∧Fr n D a I∧Hp M0 w0 w B R F) Q) ops (rest.take k) l B R F m r)(h2:b=false→SXO P ro n D M0 w0 (Exit.then (fun a w=>∃ _s:Unit,m=some r∧Fr n D a I∧Hp M0 w0 w B R F) Q) ops (rest.take k) l B R F m r)(h:SXO P ro n D M0 w0 Q ops (rest.drop k) I B R F m r):SXO P ro n D M0 w0 Q ops rest l B R F m r:=by
 refine qlO (S:=Unit) k (fun _=>I) (fun _=>B) (fun _=>R) (fun _=>F) (fun _=>m) ?_ (fun _=>h)
 grind
theorem qwX {I:Env}{K:Exit→Act→World→Prop}(hI:∀ p∈I,look l p.1=some p.2) :
  SXQ n D M0 w0 (Exit.then (fun a w=>∃ _s:Unit,m=some r∧Fr n D a I∧Hp M0 w0 w B R F) K) .normal l B R F m r :=
 fun hm _ _ hf hp=>⟨(),hm,hf.less hI,hp⟩
theorem ko {k:Nat}{b:Bool}(hu:look l k=some (.bool b))(hb:b=true)(h:SXO P ro n D M0 w0 Q ops rest ((k,.bool true)::l) B R F m r):SXO P ro n D M0 w0 Q ops rest l B R F m r :=
 qp hu (by rw[hb]) h
theorem km {k:Nat}{b:Bool}(hu:look l k=some (.bool b))(hb:b=false)(h:SXO P ro n D M0 w0 Q ops rest ((k,.bool false)::l) B R F m r):SXO P ro n D M0 w0 Q ops rest l B R F m r :=
 qp hu (by rw[hb]) h
def pickE (l:Env):List Nat→Option Env
 | []=>some []
 | k::ks=>match look l k,pickE l ks with
  | some v,some I=>some ((k,v)::I)
  | _,_=>none
theorem zp (k gd pd:Nat)(ks:List Nat){b:Bool}(z:Bool){I:Env}{os1:List Oper}(h1:SXO P ro n D M0 w0 (Exit.then (fun a w=>∃ _s:Unit,m=some r∧Fr n D a ((pd,.bool true)::I)∧Hp M0 w0 w B R F) Q) ops os1 ((gd,.bool true)::l) B R F m r)(h2:SXO P ro n D M0 w0 (Exit.then (fun a w=>∃ _s:Unit,m=some r∧Fr n D a ((pd,.bool z)::I)∧Hp M0 w0 w B R F) Q) ops os1 ((gd,.bool false)::l) B R F m r)(h:SXO P ro n D M0 w0 Q ops os2 ((pd,.bool (b || z))::I) B R F m r)(hg:look l gd=some (.bool b):=by rfl)(_hI:pickE l ks=some I:=by rfl)(ht:rest.take k=os1:=by rfl)(hd:rest.drop k=os2:=by rfl) :
  SXO P ro n D M0 w0 Q ops rest l B R F m r:=by
 subst ht;subst hd
 refine qjl k b ((pd,.bool (b || z))::I) (fun hb=>?_) (fun hb=>?_) h
 ·refine ko hg hb ?_
  simp_all
 ·refine km hg hb ?_
  simp_all
theorem kP (k gd pd:Nat)(ks:List Nat){b:Bool}(z:Bool){I:Env}{os1:List Oper}(h1:SXO P ro n D M0 w0 (Exit.then (fun a w=>∃ _s:Unit,m=some r∧Fr n D a ((pd,.bool z)::I)∧Hp M0 w0 w B R F) Q) ops os1 ((gd,.bool true)::l) B R F m r)(h2:SXO P ro n D M0 w0 (Exit.then (fun a w=>∃ _s:Unit,m=some r∧Fr n D a ((pd,.bool false)::I)∧Hp M0 w0 w B R F) Q) ops os1 ((gd,.bool false)::l) B R F m r)(h:SXO P ro n D M0 w0 Q ops os2 ((pd,.bool (b && z))::I) B R F m r)(hg:look l gd=some (.bool b):=by rfl)(_hI:pickE l ks=some I:=by rfl)(ht:rest.take k=os1:=by rfl)(hd:rest.drop k=os2:=by rfl) :
  SXO P ro n D M0 w0 Q ops rest l B R F m r:=by
 subst ht;subst hd
 refine qjl k b ((pd,.bool (b && z))::I) (fun hb=>?_) (fun hb=>?_) h
 ·refine ko hg hb ?_
  simp_all
 ·refine km hg hb ?_
  simp_all
def insF {α:Type}(lt:α→α→Bool)(x:α):List α→List α
 | []=>[x]
 | y::ys=>bif lt y x then y::insF lt x ys else x::y::ys
def isF {α:Type}(lt:α→α→Bool):List α→List α
 | []=>[]
 | x::xs=>insF lt x (isF lt xs)
theorem qjJ {α:Type}(lt:α→α→Bool)(x:α):∀ ys,(insF lt x ys).Perm (x::ys)
 | []=>qBM _
 | y::ys=>by
  unfold insF
  cases lt y x
  ·rfl
  ·exact ((qjJ lt x ys).cons y).trans (List.Perm.swap x y ys)
theorem qhm {α:Type}(lt:α→α→Bool):∀ xs,(isF lt xs).Perm xs
 | []=>qBM _
 | x::xs=>(qjJ lt x _).trans ((qhm lt xs).cons x)
theorem qqR {α:Type}{lt:α→α→Bool}{S:α→Prop}(hn:∀ a b d,S a→S b→S d→lt b a=false→lt d b=false→lt d a=false)(ha:∀ a b,S a→S b→lt a b=true→lt b a=false) :
  ∀ xs:List α,(∀ z∈xs,S z)→(isF lt xs).Pairwise fun a b=>lt b a=false
 | [],_=>List.Pairwise.nil
 | x::xs,h=>by
  have ih:=qqR hn ha xs fun z hz=>h z (qBz _ hz)
  have hm:∀ z∈isF lt xs,S z:=fun z hz=>h z (qBz _ ((qhm lt xs).mem_iff.1 hz))
  have hx:=h x (qBv ..)
  show (insF lt x (isF lt xs)).Pairwise _
  revert ih hm
  generalize isF lt xs=ys
  intro ih hm
  induction ys with
  | nil=>exact List.pairwise_singleton ..
  | cons y ys ih2 =>
   have hy:=hm y (qBv ..)
   have hp:=qB0.1 ih
   unfold insF
   cases hl:lt y x
   ·refine qB0.2 ⟨fun z hz=>?_,ih⟩
    rcases qBp.1 hz with rfl | hz'
    ·exact hl
    ·exact hn x y z hx hy (hm z hz) hl (hp.1 z hz')
   ·refine qB0.2 ⟨fun z hz=>?_,ih2 hp.2 fun z hz=>hm z (qBz _ hz)⟩
    rcases qBp.1 ((qjJ lt x ys).mem_iff.1 hz) with rfl | hz'
    ·exact ha y z hy hx hl
    ·exact hp.1 z hz'
def Stay (B:List BlkD)(F:List (World→Prop))(w:World):Prop:=(∀ b∈B,b.is w)∧∀ φ∈F,φ w
def Yv (P:Program)(l:Env)(B:List BlkD)(F:List (World→Prop))(o:Oper)(V:Value):Prop :=
 ∀ (n:Nat) (D:List Deferred) (a:Act) (w:World),Fr n D a l→Stay B F w→(execOp a.eval o).run P w=.ok (.value V) w
def binv (op:BinOp)(k:IntKind)(a:Int)(k':IntKind)(b:Int):Option Value :=
 match op with
 | .add=>if k=k' then some (.int k (iadd k a b)) else none
 | .sub=>if k=k' then some (.int k (isub k a b)) else none
 | .mul=>if k=k' then some (.int k (imul k a b)) else none
 | .and=>if k=k' then some (.int k (iand k a b)) else none
 | .or=>if k=k' then some (.int k (ior k a b)) else none
 | .xor=>if k=k' then some (.int k (ixor k a b)) else none
 | .lss=>if k=k' then some (.bool (decide (a<b))) else none
 | .leq=>if k=k' then some (.bool (decide (a≤b))) else none
 | .gtr=>if k=k' then some (.bool (decide (b<a))) else none
 | .geq=>if k=k' then some (.bool (decide (b≤a))) else none
 | .eql=>if k=k' then some (.bool (a == b)) else none
 | .neq=>if k=k' then some (.bool (a != b)) else none
 | _=>none
def pv (l:Env):Op→Option Value
 | .move x=>ev l x
 | .assign x=>ev l x
 | .pick c x y=>match ev l c with
  | some (.bool b)=>ev l (bif b then x else y)
  | _=>none
 | .binOp op _ x y _=>match ev l x,ev l y with
  | some (.int k a),some (.int k' b)=>binv op k a k' b
  | _,_=>none
 | .unOp .not _ x=>match ev l x with
  | some (.bool b)=>some (.bool (!b))
  | _=>none
 | .unOp .neg _ x=>match ev l x with
  | some (.int k b)=>some (.int k (isub k 0 b))
  | _=>none
 | .extract x i=>match ev l x with
  | some (.tuple vs)=>vs[i]?
  | _=>none
 | .nilCheck x=>match ev l x with
  | some (.pointer (some a))=>some (.pointer (some a))
  | _=>none
 | _=>none
section
variable {P:Program} {l:Env} {B:List BlkD} {F:List (World→Prop)} {t t' e:TypeId} {pos:String} {af:Array Edge} {gd:Option (Nat×Bool)} {d:Option Tmp} {agg:Bool} {z:Value} {size bytes:Nat}
theorem qxj {op : BinOp}{a:Int}{x y : Operand}(h : binv op k a k' b = some V)(w : World) :
    (do eqGuard op xt x y (.int k a) (.int k' b); binOp op xt (.int k a) (.int k' b) : Sem Value).run P w = .ok V w := by
  cases op <;> simp only [binv] at h <;> first
    | (split at h
       · rename_i hk
         subst hk
         simp only [qBs] at h
         subst h
         simp [eqGuard, binOp, Op.intArith, Op.intBits, Op.intCmp, iadd, isub, imul, iand, ior, ixor]
       · simp at h)
    | grind
theorem zn {op : Op}(h : pv l op = some V) : Yv P l B F ⟨d, op, t, pos, af, gd⟩ V := by
  intro n D a w hf _
  cases op with
  | move x => show Result.ok (Next.value (a.eval x)) w = _; rw [hf.ev h]
  | assign x => show Result.ok (Next.value (a.eval x)) w = _; rw [hf.ev h]
  | pick c x y =>
    simp only [pv] at h
    split at h
    · rename_i b hc
      have h1 := hf.ev hc
      have h2 := hf.ev h
      generalize a.eval = ε at h1 h2 ⊢
      cases b <;> simp_all [execOp, asBool]
    simp_all
  | binOp op xt x y yt =>
    simp only [pv] at h
    split at h
    · rename_i k a' k' b' hx hy
      have h1 := hf.ev hx
      have h2 := hf.ev hy
      have h3 := qxj (P := P) (xt := xt) (x := x) (y := y) h w
      generalize a.eval = ε at h1 h2 ⊢
      simp only [execOp, h1, h2]
      generalize (do eqGuard op xt x y (.int k a') (.int k' b'); binOp op xt (.int k a') (.int k' b') : Sem Value) = q at h3
      simp [h3]
    simp_all
  | unOp u xt x =>
    cases u <;> simp only [pv] at h <;> first
      | (split at h
         · rename_i b hc
           have h1 := hf.ev hc
           simp only [qBs] at h
           subst h
           generalize a.eval = ε at h1 ⊢
           simp [execOp, h1, Op.unary, Op.intArith, isub]
         simp_all)
      | grind
  | extract x i =>
    simp only [pv] at h
    split at h
    · rename_i vs hc
      have h1 := hf.ev hc
      generalize a.eval = ε at h1 ⊢
      simp [execOp, h1, Instr.extract, h]
    simp_all
  | nilCheck x =>
    simp only [pv] at h
    split at h
    · rename_i ad hc
      have h1 := hf.ev hc
      simp only [qBs] at h
      subst h
      generalize a.eval = ε at h1 ⊢
      simp [execOp, h1]
    simp_all
  | _ => simp [pv] at h
theorem qyV {x:Operand}{ds:TypeDesc}(hs:P.underlying s=some ds)(ht:P.underlying t'=some (.int k))(hx:ev l x=some (.int k' b)) :
  Yv P l B F ⟨d,.convert s t' x,t,pos,af,gd⟩ (.int k (iconv k b)):=fun n D a w hf _=>by
 have h1:=hf.ev hx
 generalize a.eval=e at h1 ⊢
 simp[execOp,h1,convert,run_underlying ht,run_underlying hs,Conv.intToInt,iconv]
theorem qAD {x:Operand}{e':TypeId}{ao:Option Addr}{k c:Nat}(ht:P.underlying s=some (.slice e'))(hx:ev l x=some (.slice ao k c)) :
  Yv P l B F ⟨d,.call ⟨.builtin .len,#[x],#[s]⟩,t,pos,af,gd⟩ (.int .i64 (k:Int)):=fun n D a w hf _=>by
 have h1:=hf.ev hx
 generalize a.eval=e at h1 ⊢
 simp[execOp,h1,resolve,invoke,builtin,Builtin.len_,run_underlying ht,goInt]
theorem qZ {x:Operand}{g o:Nat}(hx:ev l x=some (.pointer (some ⟨g,o,none⟩)))(hF:FdF P s i off) :
  Yv P l B F ⟨d,.fieldAddr s x i,t,pos,af,gd⟩ (.pointer (some ⟨g,o+off,none⟩)):=fun n D a w hf _=>by
 have h1:=hf.ev hx
 obtain ⟨fs,f,hu,hf1,hf2,j,hj,hjs⟩:=hF.out
 generalize a.eval=ε at h1 ⊢
 simp[execOp,h1,Instr.fieldAt,run_underlying hu,hf1,Instr.sureAddr,fieldPlace,Go.sizeOf,typeInfo,hj,hjs,hf2,qb7]
theorem qq {x:Operand}{g o:Nat}{cs:List Value}(hx:ev l x=some (.pointer (some ⟨g,o,none⟩)))(hT:TyF P t' agg z size bytes)(hB:B[i]?=some ⟨g,e,cs⟩)(hl:((cs.drop o).take size).length=size)(hs:agg=false→size=1)(hV:(if agg then .agg ((cs.drop o).take size).toArray else ((cs.drop o).take size).getD 0 undef)=V) :
  Yv P l B F ⟨d,.load t' x,t,pos,af,gd⟩ V:=fun n D a w hf hp=>by
 have h1:=hf.ev hx
 have hb:=hp.1 _ (qBl hB)
 have hc:yZ g o ((cs.drop o).take size) w:=by
  intro j u hj
  have hlt:j<size:=by grind
  rw[qCm hlt,qCF] at hj
  have hb':w.heap[g]?=some (.cells cs.toArray e (0,0)):=hb
  grind [World.cell?]
 have hr:=qaj hT hc hl hV.symm hs
 generalize a.eval=ε at h1 ⊢
 simp[execOp,h1,Instr.loadAt,Instr.sureAddr,hr]
theorem qV {x:Operand}{b o:Nat}{cs:List Value}(hx:ev l x=some (.pointer (some ⟨b,o,none⟩)))(hT:TyF P t' agg z size bytes)(hF:F[j]?=some (yZ b o cs))(hl:cs.length=size)(hs:agg=false→size=1)(hV:(if agg then .agg cs.toArray else cs.getD 0 undef)=V) :
  Yv P l B F ⟨d,.load t' x,t,pos,af,gd⟩ V:=fun n D a w hf hp=>by
 have h1:=hf.ev hx
 have hc:yZ b o cs w:=hp.2 _ (qBl hF)
 have hr:=qaj hT hc hl hV.symm hs
 generalize a.eval=ε at h1 ⊢
 simp[execOp,h1,Instr.loadAt,Instr.sureAddr,hr]
theorem qxd {x ix:Operand}{ki:IntKind}{i:Int}{b0 o0 k c:Nat}(ht:P.underlying t'=some (.slice e))(hT:TyF P e agg z size bytes)(hx:ev l x=some (.slice (some ⟨b0,o0,none⟩) k c))(hi:ev l ix=some (.int ki i))(h0:0≤i)(h1:i<(k:Int)):Yv P l B F ⟨d,.indexAddr t' x ix,t,pos,af,gd⟩ (.pointer (some ⟨b0,o0+i.toNat*size,none⟩)):=fun n D a w hf _=>by
 have e1:=hf.ev hx
 have e2:=hf.ev hi
 generalize a.eval=ε at e1 e2 ⊢
 simp[execOp,e1,e2,Instr.indexAt,asIntOf,run_underlying ht,hT.run_size,h0,h1,qb7]
theorem qAF {x y:Operand}{a:Int}(hx:ev l x=some (.int k a))(hy:ev l y=some (.int k b))(hb:(b != 0)=true) :
  Yv P l B F ⟨d,.binOp .quo xt x y yt,t,pos,af,gd⟩ (.int k (iquo k a b)):=fun n D a w hf _=>by
 have h1:=hf.ev hx
 have h2:=hf.ev hy
 have hb':b≠0:=by grind
 generalize a.eval=e at h1 h2 ⊢
 simp[execOp,h1,h2,eqGuard,binOp,Op.intDiv,iquo,hb']
theorem qoE {x y:Operand}{a:Int}(hx:ev l x=some (.int k a))(hy:ev l y=some (.int k b))(hb:(b != 0)=true) :
  Yv P l B F ⟨d,.binOp .rem xt x y yt,t,pos,af,gd⟩ (.int k (irem a b)):=fun n D a w hf _=>by
 have h1:=hf.ev hx
 have h2:=hf.ev hy
 have hb':b≠0:=by grind
 generalize a.eval=e at h1 h2 ⊢
 simp[execOp,h1,h2,eqGuard,binOp,Op.intDiv,irem,hb']
theorem qiA {x y:Operand}{a:Int}(hx:ev l x=some (.int k a))(hy:ev l y=some (.int k' b))(hb:decide (0≤b)=true) :
  Yv P l B F ⟨d,.binOp .shl xt x y yt,t,pos,af,gd⟩ (.int k (ishl k a b)):=fun n D a w hf _=>by
 have h1:=hf.ev hx
 have h2:=hf.ev hy
 have hb':¬ b<0:=by grind
 generalize a.eval=e at h1 h2 ⊢
 simp[execOp,h1,h2,eqGuard,binOp,Op.shift,ishl,hb']
theorem qAG {x y:Operand}{a:Int}(hx:ev l x=some (.int k a))(hy:ev l y=some (.int k' b))(hb:decide (0≤b)=true) :
  Yv P l B F ⟨d,.binOp .shr xt x y yt,t,pos,af,gd⟩ (.int k (ishr k a b)):=fun n D a w hf _=>by
 have h1:=hf.ev hx
 have h2:=hf.ev hy
 have hb':¬ b<0:=by grind
 generalize a.eval=e at h1 h2 ⊢
 simp[execOp,h1,h2,eqGuard,binOp,Op.shift,ishr,hb']
end
section
variable {P:Program} {ro:Option Nat} {n:Nat} {D:List Deferred} {M0:List Nat} {w0:World} {Q:Exit→Act→World→Prop} {ρ:Type}
variable {ops:Array Oper} {l:Env} {B Bs:List BlkD} {R:List RowD} {F Fs:List (World→Prop)} {m:Option ρ} {r:ρ}
def SXA (P:Program)(n:Nat)(D:List Deferred)(M0:List Nat)(w0:World)(Q:Exit→Act→World→Prop){ρ:Type}(ops:Array Oper)(Bs:List BlkD)(Fs:List (World→Prop))(fuel:Nat)(done:Array Bool)
  (l:Env) (B:List BlkD) (R:List RowD) (F:List (World→Prop)) (m:Option ρ) (r:ρ):Prop :=
 m=some r→∀ a w,Fr n D a l→Hp M0 w0 w B R F→Stay Bs Fs w→wpAnyH P .any ops Q (Stay Bs Fs) fuel done a w
def yx (Q:Exit→Act→World→Prop):Exit→Act→World→Prop
 | .panic _,_,_=>False
 | e,a,w=>Q e a w
def qBe (P:Program)(o:Oper):Prop:=∀ (a:Act) (w:World) (l f:Nat) (tmps:Array Value) (asg bo:Code) (w':World),(execOp a.eval o).run P w≠.ok (.round l f tmps asg bo) w'∧∀ row args,(execOp a.eval o).run P w≠.ok (.row row args) w'
variable {t:TypeId} {pos:String} {af:Array Edge} {gd:Option (Nat×Bool)} {d:Option Tmp}
theorem qj6 {e:Exit}(h:SXQ n D M0 w0 Q e l B R F m r)(he:∀ c,e≠.panic c:=by intro c h;cases h):SXQ n D M0 w0 (yx Q) e l B R F m r:=by
 intro hm a w hf hp
 have:=h hm a w hf hp
 cases e <;> first | exact this | simp_all
theorem qyt {x:Code}{c:Bool}(h:c=true→SXC P ro n D M0 w0 Q x l B R F m r):SXC P ro n D M0 w0 Q x l B R F (chk c m) r:=by
 intro hm
 cases c
 ·simp[chk] at hm
 ·exact h rfl (by simpa[chk] using hm)
theorem qt6 {x:Code}{c:Bool}{m1 m2:Option ρ}(h1:c=true→SXC P ro n D M0 w0 Q x l B R F m1 r)(h2:c=false→SXC P ro n D M0 w0 Q x l B R F m2 r):SXC P ro n D M0 w0 Q x l B R F (if c then m1 else m2) r:=by
 grind
theorem qw {i:Int}{y:α}(h:idx xs i=some y):0≤i∧i.toNat<xs.length∧xs[i.toNat]?=some y:=by
 grind [idx]
theorem qcu {i:Int}{y:α}(h:idx xs i=some y):i<(xs.length:Int):=by
 have:=qw h;omega
theorem qgu {x:Code}{enc:α→List Value}{size:Nat}{k:α→Option ρ}{i:Int}{ao:Option Addr}{c:Nat}(henc:EncOk enc size)(hs0:size≠0)(hF:F[j]?=some (Sl enc size (.slice ao xs.length c) xs))(h:∀ y,idx xs i=some y→∀ b o,ao=some ⟨b,o,none⟩→SXC P ro n D M0 w0 Q x l B R (yZ b (o+i.toNat*size) (enc y)::F) (k y) r) :
  SXC P ro n D M0 w0 Q x l B R F ((idx xs i).bind k) r:=by
 intro hm a w hf hp
 cases hq:idx xs i with
 | none=>simp_all
 | some y =>
  rw[hq] at hm
  have hm':k y=some r:=by grind
  obtain ⟨h0,hlt,hy⟩:=qw hq
  have hnec:=hp.per _ (qBl hF)
  obtain ⟨⟨ao',cap,hv,_,_,hsp,hc⟩,hlen⟩:=(hnec.here:Cells _ xs.length size (xs.flatMap enc) w)
  simp only[Value.slice.injEq] at hv
  obtain ⟨rfl,-,rfl⟩:=hv
  have h00:0<(enc y).length:=by rw[henc.len];omega
  obtain ⟨ad,rfl,had⟩:=hc (i.toNat*size+0) _ (yX henc xs i.toNat y 0 _ hy (qBk h00))
  have hsp':=(hsp _ rfl).resolve_left (by intro h9;have h8:=yX henc xs i.toNat y 0 _ hy (qBk h00);grind)
  obtain ⟨b,o,sp⟩:=ad
  simp only at hsp'
  subst hsp'
  refine h y hq b o rfl hm' a w hf (hp.addFact ?_)
  intro w' hk' jj u hj
  obtain ⟨⟨ao',cap',hv',_,_,hsp',hc'⟩,_⟩:=(hnec w' hk':Cells _ xs.length size (xs.flatMap enc) w')
  simp only[Value.slice.injEq] at hv'
  obtain ⟨rfl,-,-⟩:=hv'
  obtain ⟨ad',h3,h4⟩:=hc' (i.toNat*size+jj) u (yX henc xs i.toNat y jj u hy hj)
  grind
end
end SX
