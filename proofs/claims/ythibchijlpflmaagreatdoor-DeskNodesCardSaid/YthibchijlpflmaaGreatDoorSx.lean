/- A layer of rules for walking Go code: what a frame's slots hold, what blocks and rows of the heap hold; each rule speaks of a plain model's value: part 2. -/
import Derived.Test.YthibchijlpflmaaGreatDoorSw
import Derived.RangeFuncLeaves
import Derived.RangeFuncRecord
import Derived.RangeFuncSeq
import Derived.OrdersIn
import Derived.Defers
import Derived.Recover
import Derived.Tactics
import Derived.Tactics2
import Derived.Laws.Pointers
import Derived.ProofKit
import Derived.Shelf.Sort.Plain
import Derived.Shelf.Slices.CompactI
import Derived.Laws.StructEq
import Derived.Laws.BytesString
open Bool renaming false_eq_true→qBy, and_eq_true→qB6
open Int renaming eq_ofNat_of_zero_le→qBm, toNat_natCast→qBo, le_trans→qDF
open List renaming replicate→qBj, mem_of_getElem?→qBl, mem_append→qBn, mem_cons→qBp, length_append→qBr, append_assoc→qBt, mem_cons_self→qBv, mem_cons_of_mem→qBz, length_set→qBA, getElem?_eq_some_iff→qBC, mem_singleton→qBD, flatMap_cons→qBG, length_map→qBJ, mem_map→qBK, length_replicate→qBP, ext_getElem?→qBU, append_nil→qBV, all_eq_true→qBX, ext_getElem→qBY, map_cons→qB2, nodup_append→qB3, mem_flatMap→qCa, cons_append→qCb, size_toArray→qCg, perm_append_comm→qCl, getElem?_take_of_lt→qCm, perm_middle→qCn, replicate_succ→qCq, take_left→qCt, length_eq_zero_iff→qCz, zipIdx_cons→qCA, getElem?_drop→qCF, take_left'→qCJ, flatMap_append→qCQ, set_cons_succ→qCT, map_fst_zip→qC0, map_append→qC9, zip_cons_cons→qDx, flatten_cons→qDD, map_snd_zip→qDI, take_take→qDT
open List.Perm renaming refl→qBM, append_right→qDi, append_left→qDo, swap→qDR, cons→qDS
open List.Sublist renaming refl→qBL
open Nat renaming le_refl→qBw, zero_le→qBH, mul_le_mul_right→qBN, le_of_ble_eq_true→qBZ, le_trans→qB5, zero_add→qB9, mul_one→qCd, min_eq_left→qC8
open Option.some renaming injEq→qBs
namespace SX
open Go
set_option linter.unusedSectionVars false
variable [DM]
def PureM (P:Program)(f:FuncId)(vs:List Value)(B0:List BlkD)(R0:List RowD)(Φ:List (World→Prop))(γ:Type)(V:γ→Value)(B1:γ→List BlkD)(R1:γ→List RowD):Prop :=
 ∀ w,Hp (muts B0 R0) w w B0 R0 Φ→Calls P f vs.toArray w fun e w'=>∃ g:γ,e=.returned (V g)∧Hp (muts B0 R0) w w' (B1 g) (R1 g) []
theorem qgo {B1 B2:List BlkD}{R1 R2:List RowD}:(muts (B1++B2) (R1++R2)).Perm (muts B1 R1++muts B2 R2):=by
 grind [muts]
inductive Takes {α:Type}:List α→List α→List α→Prop
 | nil {R:List α}:Takes R [] R
 | cons {R R' S:List α} {r:α} (i:Nat) (h:R[i]?=some r) (hp:Takes (R.eraseIdx i) R' S):Takes R (r::R') S
variable {a:Act}{done:Array Bool}{tys:Array TypeId}{args cap first:Array Value}{agg:Bool}{fn:Func}{f:FuncId}{Φ:List (World→Prop)}{B' B0 BS:List BlkD}{ch:List PanicEntry}{R0 RS:List RowD}{vs:List Value}{N bytes c d fuel i j:Nat}{o oi:Oper}{x x0 y:Operand}{ao:Option Addr}{dst:Option Tmp}{α σ:Type}{T t' xt:TypeId}{z:Value}{xs:List α}{BL:σ→List BlkD}
theorem Takes.perm {R R' S:List α}(h:Takes R R' S):R.Perm (R'++S):=by
 induction h with
 | nil=>rfl
 | cons i h _ ih =>
  obtain ⟨R1,R2,rfl,he⟩:=qed h
  rw[he] at ih
  exact qCn.trans (qDS _ ih)
theorem Hp.perm {M0 : List Nat}{w0 w : World}{B:List BlkD}{R R' : List RowD}{F : List (World → Prop)}(h : Hp M0 w0 w B R F)(hB : B.Perm B')(hR : R.Perm R') : Hp M0 w0 w B' R' F := by
  have hp : (muts B R).Perm (muts B' R') := (hB.map _).append (hR.flatMap_right _)
  exact { keep := h.keep, blk := fun b hb => h.blk b (hB.mem_iff.2 hb), rows := fun r hr => h.rows r (hR.mem_iff.2 hr), nodup := hp.nodup_iff.1 h.nodup,
          fresh := fun g hg => h.fresh g (hp.mem_iff.2 hg), per := fun φ hφ => (h.per φ hφ).less fun k hk => hp.mem_iff.2 hk }
theorem Hp.callM {M0:List Nat}{w0 w w':World}{B1:List BlkD}{R1:List RowD}{F:List (World→Prop)}(h:Hp M0 w0 w (B0++BS) (R0++RS) F)(hr:Hp (muts B0 R0) w w' B1 R1 []):Hp M0 w0 w' (B1++BS) (R1++RS) F:=by
 have hm:=qgo (B1:=B0) (B2:=BS) (R1:=R0) (R2:=RS)
 have hm1:=qgo (B1:=B1) (B2:=BS) (R1:=R1) (R2:=RS)
 have hnd:=hm.nodup_iff.1 h.nodup
 have hdis:∀ k∈muts BS RS,k∉muts B0 R0:=fun k hk hk'=>(qB3.1 hnd).2.2 k hk' k hk rfl
 refine h.turn (muts B0 R0) hr.keep (fun k hk=>hm.mem_iff.2 (qBn.2 (.inl hk))) (fun b hb=>?_) (fun r0 h0=>?_) ?_ ?_
 ·rcases qBn.1 hb with hb | hb
  ·exact hr.blk b hb
  ·exact qbI (h.blk b (qBn.2 (.inr hb))) hr.keep (hdis _ (qBn.2 (.inl (qBK.2 ⟨b,hb,rfl⟩))))
 ·rcases qBn.1 h0 with h0 | h0
  ·exact hr.rows r0 h0
  ·exact v6 (h.rows r0 (qBn.2 (.inr h0))) hr.keep fun g hg=>hdis _ (qBn.2 (.inr (qCa.2 ⟨r0,h0,hg⟩)))
 ·refine hm1.nodup_iff.2 (qB3.2 ⟨hr.nodup,(qB3.1 hnd).2.1,fun a ha b hb hab=>?_⟩)
  subst hab
  rcases hr.fresh a ha with h1 | h1
  ·exact hdis a hb h1
  ·have:=h.lt a (hm.mem_iff.2 (qBn.2 (.inr hb)));omega
 ·intro g hg
  rcases qBn.1 (hm1.mem_iff.1 hg) with h2 | h2
  ·rcases hr.fresh g h2 with h3 | h3
   ·exact .inl (hm.mem_iff.2 (qBn.2 (.inl h3)))
   ·exact .inr h3
  ·exact .inl (hm.mem_iff.2 (qBn.2 (.inr h2)))
inductive ArgsM (R:List RowD) (F:List (World→Prop)):List (World→Prop)→Prop
 | nil:ArgsM R F []
 | consF {φ:World→Prop} {Φ:List (World→Prop)} (j:Nat) (h:F[j]?=some φ) (ha:ArgsM R F Φ):ArgsM R F (φ::Φ)
 | consR {Φ:List (World→Prop)} (j:Nat) (rd:RowD) (h:R[j]?=some rd) (ha:ArgsM R F Φ):ArgsM R F (Cells rd.v rd.n rd.size rd.cs::Φ)
 | consG {φ:World→Prop} {Φ:List (World→Prop)} (j:Nat) {rd:RowD} (h:R[j]?=some rd) (hφ:∀ w,rd.owns w→φ w) (ha:ArgsM R F Φ):ArgsM R F (φ::Φ)
theorem ArgsM.ok {M0:List Nat}{w0 w:World}{F:List (World→Prop)}(ha:ArgsM RS F Φ)(hp:Hp M0 w0 w (B0++BS) (R0++RS) F):∀ φ∈Φ,Nec w (muts B0 R0) φ:=by
 have hm:=qgo (B1:=B0) (B2:=BS) (R1:=R0) (R2:=RS)
 have hnd:=hm.nodup_iff.1 hp.nodup
 induction ha with
 | nil=>simp
 | consF j h _ ih =>
  intro φ hφ
  rcases qBp.1 hφ with rfl | hφ
  ·exact (hp.per _ (qBl h)).less fun k hk=>hm.mem_iff.2 (qBn.2 (.inl hk))
  simp_all
 | consR j rd h _ ih =>
  intro φ hφ
  rcases qBp.1 hφ with rfl | hφ
  ·intro w' hk
   have hrd:=qBl h
   refine Cells.keeps (zd (hp.row _ (qBn.2 (.inr hrd)))) hk fun g hg hgm=>?_
   exact (qB3.1 hnd).2.2 g hgm g (qBn.2 (.inr (qCa.2 ⟨rd,hrd,RowD.blocks_v hg⟩))) rfl
  simp_all
 | @consG _ _ j rd h hg _ ih =>
  intro φ hφ
  rcases qBp.1 hφ with rfl | hφ
  ·intro w' hk
   have hrd:=qBl h
   refine hg w' (v6 (hp.rows _ (qBn.2 (.inr hrd))) hk fun g hg' hgm=>?_)
   exact (qB3.1 hnd).2.2 g hgm g (qBn.2 (.inr (qCa.2 ⟨rd,hrd,hg'⟩))) rfl
  simp_all
theorem Hp.startM {M0:List Nat}{w0 w:World}{F:List (World→Prop)}(hp:Hp M0 w0 w (B0++BS) (R0++RS) F)(h:∀ φ∈Φ,Nec w (muts B0 R0) φ):Hp (muts B0 R0) w w B0 R0 Φ where
 keep:=Keeps.refl _ _
 blk:=fun b hb=>hp.blk b (qBn.2 (.inl hb))
 rows:=fun r hr=>hp.rows r (qBn.2 (.inl hr))
 nodup:=(qB3.1 (qgo.nodup_iff.1 hp.nodup)).1
 fresh:=fun _ hg=>.inl hg
 per:=h
variable {P:Program}{ro:Option Nat}{n:Nat}{D:List Deferred}{M0:List Nat}{w0:World}{Q:Exit→Act→World→Prop}{ρ:Type}
variable {ops:Array Oper}{rest:List Oper}{l:Env}{B:List BlkD}{R:List RowD}{F:List (World→Prop)}{m:Option ρ}{r:ρ}
variable {t:TypeId}{pos:String}{af:Array Edge}{gd:Option (Nat×Bool)}
theorem qcB {γ:Type}{mg:Option α}{k:α→Option ρ}{xs:Array Operand}{V:α→γ→Value}{B1:α→γ→List BlkD}{R1:α→γ→List RowD}(he:Enters P f)(hw:wants ops l ⟨some d,.call ⟨.value (.func f),xs,tys⟩,t,pos,af,gd⟩=some true)(hx:evArgs l xs.toList=some vs)(hd:Nat.blt d n=true)(hC:∀ y,mg=some y→PureM P f vs B0 R0 Φ γ (V y) (B1 y) (R1 y))(hB:Takes B B0 BS)(hR:Takes R R0 RS)(ha:ArgsM RS F Φ)(h:∀ y,mg=some y→∀ g,SXO P ro n D M0 w0 Q ops rest ((d,V y g)::l) (B1 y g++BS) (R1 y g++RS) F (k y) r) :
  SXO P ro n D M0 w0 Q ops (⟨some d,.call ⟨.value (.func f),xs,tys⟩,t,pos,af,gd⟩::rest) l B R F (mg.bind k) r:=by
 intro hm a w hf hp
 cases hq:mg with
 | none=>simp_all
 | some y =>
  rw[hq] at hm
  have hm':k y=some r:=by grind
  have hp':=hp.perm hB.perm hR.perm
  refine qdd (zg hf hw) (yN hw) (qlA hf he hx) ((hC y hq w (hp'.startM (ha.ok hp'))).mono fun e w' ⟨g,h1,h2⟩=>⟨V y g,h1,?_⟩)
  exact h y hq g hm' _ _ (hf.put hd _) (hp'.callM h2)
theorem qjc {c:Code}{γ:Type}{V:γ→Value}{B1:γ→List BlkD}{R1:γ→List RowD}(hfn:P.funcs[f]?=some fn)(hb:fn.body=some c)(hn:fn.ntmps=N)(hvl:Nat.ble vs.length N=true)(hm:m=some r)(h:∀ w,SXC P none N [] (muts B0 R0) w (bodyPost P fn fun e w'=>∃ g:γ,e=.returned (V g)∧Hp (muts B0 R0) w w' (B1 g) (R1 g) []) c (vs.zipIdx.map fun p=>(p.2,p.1)) B0 R0 Φ m r):PureM P f vs B0 R0 Φ γ V B1 R1:=by
 intro w hp
 refine calls_of_wp hfn hb (qhl.1 (h w hm _ w ?_ hp))
 have hvl':vs.length≤N:=by simp_all
 refine ⟨rfl,by simp_all,fun i v hv=>?_⟩
 have key:∀ (vs:List Value) (k i:Nat) (v:Value),look ((vs.zipIdx k).map fun p=>(p.2,p.1)) i=some v→k≤i∧vs[i-k]?=some v:=by
  intro vs
  induction vs with
  | nil=>intro k i v hv;simp[look] at hv
  | cons u vs ih =>
   intro k i v hv
   simp only[qCA,qB2] at hv
   rw[qab] at hv
   split at hv
   ·simp_all
   grind
 grind
theorem yr {γ:Type}{V:γ→Value}{B1:γ→List BlkD}{R1:γ→List RowD}{w:World}{x:ρ}{e:Exit}(g:γ){v:Value}(hres:∀ a w',Fr n [] a l→Hp M0 w w' B R F→(results fn a.tmps).run P w'=.ok v w')(hB:x=r→Pick B (B1 g):=by intro h;subst h;exact .nil)(hR:x=r→Pick R (R1 g):=by intro h;subst h;exact .nil)(hv:x=r→v=V g:=by intro h;subst h;rfl)(he:e=.ret∨e=.normal:=by first | exact .inl rfl | exact .inr rfl) :
  SXQ n [] M0 w (bodyPost P fn fun e w'=>∃ g:γ,e=.returned (V g)∧Hp M0 w w' (B1 g) (R1 g) []) e l B R F (some x) r:=by
 intro hm a w' hf hp
 have hx:x=r:=by grind
 have:∃ v,(results fn a.tmps).run P w'=.ok v w'∧∃ g:γ,Ending.returned v=.returned (V g)∧Hp M0 w w' (B1 g) (R1 g) [] :=
  ⟨v,hres a w' hf hp,g,by grind,hp.pick (hB hx) (hR hx) (by simp)⟩
 rcases he with rfl | rfl
 ·exact ⟨hf.defers,this⟩
 ·exact ⟨hf.defers,this⟩
inductive ResOk (P:Program) (l:Env) (B:List BlkD):List ResultVar→List Value→Prop
 | nil:ResOk P l B [] []
 | tmp {t:Tmp} {v:Value} {rs:List ResultVar} {vs:List Value} (h:look l t=some v) (hr:ResOk P l B rs vs):ResOk P l B (.tmp t::rs) (v::vs)
 | cell {t:Tmp} {ty e:TypeId} {agg:Bool} {z:Value} {size bytes i g o:Nat} {cs:List Value} {V:Value} {rs:List ResultVar} {vs:List Value} (hx:look l t=some (.pointer (some ⟨g,o,none⟩))) (hT:TyF P ty agg z size bytes)
   (hB:B[i]?=some ⟨g,e,cs⟩) (hl:((cs.drop o).take size).length=size) (hs:agg=false→size=1) (hV:(if agg then .agg ((cs.drop o).take size).toArray else ((cs.drop o).take size).getD 0 undef)=V)
   (hr:ResOk P l B rs vs):ResOk P l B (.cell t ty::rs) (V::vs)
theorem qtN {rs:List ResultVar}(h:ResOk P l B rs vs){w:World}(hf:Fr n D a l)(hb:∀ b∈B,b.is w) :
  (rs.mapM (fun | .tmp t=>pure (a.tmps.getD t undef) | .cell x t=>do loadVar t (← asAddr (a.tmps.getD x undef))):Sem (List Value)).run P w=.ok vs w:=by
 induction h with
 | nil=>rfl
 | @tmp t v rs vs h _ ih =>
  have e1:=hf.val _ _ h
  simp_all
 | @cell t ty e agg z size bytes i g o cs V rs vs hx hT hB hl hs hV _ ih =>
  have e1:=hf.val _ _ hx
  have hb1:=hb _ (qBl hB)
  have hc:yZ g o ((cs.drop o).take size) w:=by
   intro j u hj
   have hlt:j<size:=by grind
   rw[qCm hlt,qCF] at hj
   have hb':w.heap[g]?=some (.cells cs.toArray e (0,0)):=hb1
   grind [World.cell?]
  have hr:=qaj hT hc hl hV.symm hs
  simp only[List.mapM_cons]
  generalize (rs.mapM (fun | .tmp t=>pure (a.tmps.getD t undef) | .cell x t=>do loadVar t (← asAddr (a.tmps.getD x undef))):Sem (List Value))=q at ih
  simp[Array.getD_eq_getD_getElem?,e1,asAddr,hr,ih]
theorem resL {rs:List ResultVar}(hfn:fn.results=rs.toArray)(h:ResOk P l B rs vs){w:World}{v:Value}(hv:(match vs with | [v]=>v | _=>.tuple vs.toArray)=v):∀ a w',Fr n [] a l→Hp M0 w w' B R F→(results fn a.tmps).run P w'=.ok v w':=by
 intro a w' hf hp
 have hr:=qtN h hf hp.blk
 have key:results fn a.tmps=(do
   let vs ← (Functor.map List.toArray (rs.mapM (fun | .tmp t=>pure (a.tmps.getD t undef) | .cell x t=>do loadVar t (← asAddr (a.tmps.getD x undef))):Sem (List Value)):Sem (Array Value))
   pure (if h:vs.size=1 then vs[0] else .tuple vs)):=by
  unfold results
  rw[hfn,Array.mapM_eq_mapM_toList]
  rfl
 rw[key]
 subst hv
 generalize (rs.mapM (fun | .tmp t=>pure (a.tmps.getD t undef) | .cell x t=>do loadVar t (← asAddr (a.tmps.getD x undef))):Sem (List Value))=q at hr
 simp only[map_eq_pure_bind,bind_assoc,pure_bind]
 simp[hr]
 match vs with
 | []=>rfl
 | [v]=>rfl
 | v::u::r=>simp
def lbnd {α σ ρ:Type}(m:Option (α ⊕ σ))(k:α→Option ρ)(kl:σ→Option ρ):Option ρ:=m.bind fun x=>match x with | .inl y=>k y | .inr z=>kl z
def PostL (ch:List PanicEntry)(M:List Nat)(w:World){α σ γ:Type}(V:α→γ→Value)(B1:α→γ→List BlkD)(R1:α→γ→List RowD)(BL:σ→List BlkD):α ⊕ σ→Ending→World→Prop
 | .inl y,e,w'=>∃ g:γ,e=.returned (V y g)∧Hp M w w' (B1 y g) (R1 y g) []
 | .inr z,e,w'=>e=.panicked ch∧Hp M w w' (BL z) [] []
def PureL (P:Program)(f:FuncId)(vs:List Value)(B0:List BlkD)(R0:List RowD)(Φ:List (World→Prop))(ch:List PanicEntry){α σ:Type}(γ:Type)(V:α→γ→Value)(B1:α→γ→List BlkD)(R1:α→γ→List RowD)(BL:σ→List BlkD)(r:α ⊕ σ):Prop :=
 ∀ w,Hp (muts B0 R0) w w B0 R0 Φ→Calls P f vs.toArray w (PostL ch (muts B0 R0) w V B1 R1 BL r)
theorem qml {w:World}(hw:Region.wanted o (yielded ops a.tmps)=true)(hc:∀ c,o.op≠.defer c)(hr:(execOp a.eval o).run P w=.ok (.enter f args) w)(h:Calls P f args w fun e w'=>match e with
   | .returned v=>ke ro P ops Q rest (a.put o.dst v) w'
   | .panicked chain=>Q (.panic chain) a w'
   | .outgrown=>False):ke ro P ops Q (o::rest) a w:=by
 refine qdA hw hc ?_
 rw[hr]
 refine ⟨fun hd=>by simp[Wd] at hd,?_⟩
 have h':=(callsIn_wide (n:=0)).2 (h.mono (R':=fun
   | .returned v,w''=>ke ro P ops Q rest (a.put o.dst v) w''
   | .panicked chain,w''=>Q (.panic chain) a w''
   | .outgrown,_=>LetsOut Q) fun e w' hk=>by grind)
 exact h'
theorem k9 {γ:Type}{mg:Option (α ⊕ σ)}{k:α→Option ρ}{kl:σ→Option ρ}{xs:Array Operand}{V:α→γ→Value}{B1:α→γ→List BlkD}{R1:α→γ→List RowD}(he:Enters P f)(hw:wants ops l ⟨some d,.call ⟨.value (.func f),xs,tys⟩,t,pos,af,gd⟩=some true)(hx:evArgs l xs.toList=some vs)(hd:Nat.blt d n=true)(hC:∀ y,mg=some y→PureL P f vs B0 R0 Φ ch γ V B1 R1 BL y)(hB:Takes B B0 BS)(hR:Takes R R0 RS)(ha:ArgsM RS F Φ)(hl:∀ z,mg=some (.inr z)→SXQ n D M0 w0 Q (.panic ch) l (BL z++BS) RS F (kl z) r)(h:∀ y,mg=some (.inl y)→∀ g,SXO P ro n D M0 w0 Q ops rest ((d,V y g)::l) (B1 y g++BS) (R1 y g++RS) F (k y) r) :
  SXO P ro n D M0 w0 Q ops (⟨some d,.call ⟨.value (.func f),xs,tys⟩,t,pos,af,gd⟩::rest) l B R F (lbnd mg k kl) r:=by
 intro hm a w hf hp
 have hp':=hp.perm hB.perm hR.perm
 cases hq:mg with
 | none=>grind [lbnd]
 | some y =>
  refine qml (zg hf hw) (yN hw) (qlA hf he hx) ((hC y hq w (hp'.startM (ha.ok hp'))).mono fun e w' hP=>?_)
  rw[hq] at hm
  cases y with
  | inl y =>
   have hm':k y=some r:=by simpa[lbnd] using hm
   obtain ⟨g,rfl,h2⟩:=hP
   exact h y hq g hm' _ _ (hf.put hd _) (hp'.callM h2)
  | inr z =>
   have hm':kl z=some r:=by simpa[lbnd] using hm
   obtain ⟨rfl,h2⟩:=hP
   have h3:=hp'.callM h2
   exact hl z hq hm' _ _ hf (by grind)
theorem quj {K:Act→World→Prop}(h:SXQ n D M0 w0 Q (.panic ch) l B R F m r):SXQ n D M0 w0 (Exit.then K Q) (.panic ch) l B R F m r:=h
theorem qwV {id:Nat}(h:SXQ n D M0 w0 Q (.panic ch) l B R F m r):SXQ n D M0 w0 (Exit.inBlock id Q) (.panic ch) l B R F m r:=h
theorem qhs {c:Code}{γ:Type}{V:α→γ→Value}{B1:α→γ→List BlkD}{R1:α→γ→List RowD}{m:Option (α ⊕ σ)}{r:α ⊕ σ}(hfn:P.funcs[f]?=some fn)(hb:fn.body=some c)(hn:fn.ntmps=N)(hvl:Nat.ble vs.length N=true)(hm:m=some r)(h:∀ w,SXC P none N [] (muts B0 R0) w (bodyPost P fn (PostL ch (muts B0 R0) w V B1 R1 BL r)) c (vs.zipIdx.map fun p=>(p.2,p.1)) B0 R0 Φ m r):PureL P f vs B0 R0 Φ ch γ V B1 R1 BL r:=by
 intro w hp
 refine calls_of_wp hfn hb (qhl.1 (h w hm _ w ?_ hp))
 have hvl':vs.length≤N:=by simp_all
 refine ⟨rfl,by simp_all,fun i v hv=>?_⟩
 have key:∀ (vs:List Value) (k i:Nat) (v:Value),look ((vs.zipIdx k).map fun p=>(p.2,p.1)) i=some v→k≤i∧vs[i-k]?=some v:=by
  intro vs
  induction vs with
  | nil=>intro k i v hv;simp[look] at hv
  | cons u vs ih =>
   intro k i v hv
   simp only[qCA,qB2] at hv
   rw[qab] at hv
   split at hv
   ·simp_all
   grind
 grind
theorem qdF {γ:Type}{V:α→γ→Value}{B1:α→γ→List BlkD}{R1:α→γ→List RowD}{r:α ⊕ σ}{w:World}{x:α}{e:Exit}(g:γ){v:Value}(he:e=.ret∨e=.normal)(hres:∀ a w',Fr n [] a l→Hp M0 w w' B R F→(results fn a.tmps).run P w'=.ok v w')(hv:v=V x g)(hB:Pick B (B1 x g))(hR:Pick R (R1 x g)) :
  SXQ n [] M0 w (bodyPost P fn (PostL ch M0 w V B1 R1 BL r)) e l B R F (some (.inl x)) r:=by
 intro hm a w' hf hp
 have hx:Sum.inl x=r:=by grind
 subst hx
 have:∃ v,(results fn a.tmps).run P w'=.ok v w'∧PostL ch M0 w V B1 R1 BL (.inl x) (.returned v) w' :=
  ⟨v,hres a w' hf hp,g,by rw[hv],hp.pick hB hR (by simp)⟩
 rcases he with rfl | rfl
 ·exact ⟨hf.defers,this⟩
 ·exact ⟨hf.defers,this⟩
theorem qj5 {γ:Type}{V:α→γ→Value}{B1:α→γ→List BlkD}{R1:α→γ→List RowD}{r:α ⊕ σ}{w:World}{z:σ}(hB:Pick B (BL z)) :
  SXQ n [] M0 w (bodyPost P fn (PostL ch M0 w V B1 R1 BL r)) (.panic ch) l B R F (some (.inr z)) r:=by
 intro hm a w' hf hp
 have hx:Sum.inr z=r:=by grind
 subst hx
 exact ⟨hf.defers,rfl,hp.pick hB .nil (by simp)⟩
theorem quh {v:Value}(hw:wants ops l ⟨dst,.panic x,t,pos,af,gd⟩=some true)(hx:ev l x=some (.iface T v))(h:SXQ n D M0 w0 Q (.panic [{ v:=.iface T v,recovered:=false }]) l B R F m r):SXO P ro n D M0 w0 Q ops (⟨dst,.panic x,t,pos,af,gd⟩::rest) l B R F m r:=by
 intro hm a w hf hp
 refine qdA (zg hf hw) (yN hw) ?_
 have h1:(execOp a.eval ⟨dst,.panic x,t,pos,af,gd⟩).run P w=.halt (.panic (.iface T v)) w:=by
  have h1:=hf.ev hx
  generalize a.eval=ε at h1 ⊢
  have h2:(Instr.panic (.iface T v)).run P w=.halt (.panic (.iface T v)) w:=rfl
  simp[execOp,h1,h2]
 rw[h1]
 exact h hm a w hf hp
variable {w:World}
theorem Keeps.putObj (g:Nat)(o:Obj):Keeps [g] w (w.putObj g o) :=
 ⟨rfl,rfl,rfl,by simp,fun k _ hn=>World.putObj_heap_other (by simp_all),fun _=>qBw _⟩
theorem Hp.setObj {b:BlkD}(h:Hp M0 w0 w B R F)(hi:B[i]?=some b)(o:Obj):Hp M0 w0 (w.putObj b.g o) (B.set i (blkO b.g o)) R F:=by
 have hm:b∈B:=qBl hi
 have hgm:b.g∈muts B R:=qBn.2 (.inl (qBK.2 ⟨_,hm,rfl⟩))
 have hlt:=h.lt _ hgm
 have hk:=Keeps.putObj (w:=w) b.g o
 have hmu:=qja (R:=R) (b':=blkO b.g o) hi rfl
 refine h.turn [b.g] hk (by simp_all) (fun b' hb=>?_) (fun r hr=>v6 (h.rows r hr) hk fun g' hg'=>?_) (hmu▸h.nodup) (fun k hk=>.inl (hmu▸hk))
 ·obtain ⟨j,hj⟩:=List.getElem?_of_mem hb
  rw[List.getElem?_set] at hj
  split at hj
  ·split at hj
   ·simp at hj;subst hj
    exact World.putObj_heap_same hlt
   simp_all
  ·rename_i hij
   refine qbI (h.blk b' (qBl hj)) hk (fun hg=>?_)
   simp only[qBD] at hg
   exact hij (qmN h.nodup hi hj hg.symm)
 ·intro hgg
  simp only[qBD] at hgg
  have hnd:=(qB3.1 h.nodup).2.2
  exact hnd b.g (qBK.2 ⟨_,hm,rfl⟩) g' (qCa.2 ⟨r,hr,hg'⟩) hgg.symm
theorem Hp.allocO (h:Hp M0 w0 w B R F)(o:Obj):Hp M0 w0 (w.alloc o) (blkO w.heap.size o::B) R F:=by
 have hk:=Keeps.alloc [] w o
 refine h.turn [] hk (by simp) (fun b hb=>?_) (fun r hr=>v6 (h.rows r hr) hk (by simp)) ?_ ?_
 ·rcases qBp.1 hb with rfl | hb
  ·exact heap_alloc_new w _
  ·exact qbI (h.blk b hb) hk (by simp)
 ·simp only[muts,qB2,qCb,List.nodup_cons]
  exact ⟨fun hm=>by have:=h.lt _ hm;omega,h.nodup⟩
 ·intro g hg
  simp only[muts,qB2,qCb,qBp] at hg
  rcases hg with rfl | hg
  ·omega
  ·exact .inl hg
theorem Hp.facts {F':List (World→Prop)}(h:Hp M0 w0 w B R F)(hF:∀ φ∈F',Nec w (muts B R) φ):Hp M0 w0 w B R F' :=
 { keep:=h.keep,blk:=h.blk,rows:=h.rows,nodup:=h.nodup,fresh:=h.fresh,per:=hF }
def mark (k:Nat):Deferred:={ target:=.collected k,args:=#[] }
abbrev dblk (k:Nat):BlkD:=blkO k (.deferred (some []))
theorem qnT {tmps:Array Value}{Rp:Ending→World→Prop}{v:Value}:∀ (Ds:List Nat) (w:World) (B:List BlkD),Hp M0 w0 w (Ds.map dblk++B) R F →
  (∀ w',Hp M0 w0 w' B R F→(results fn tmps).run P w'=.ok v w'∧Rp (.returned v) w')→LeavesInM (Wd none) 0 P fn tmps Rp (Ds.map mark) .returning w:=by
 intro Ds
 induction Ds with
 | nil=>intro w B hp h;obtain ⟨h1,h2⟩:=h w hp;exact ⟨v,h1,h2⟩
 | cons k Ds ih =>
  intro w B hp h
  have hb:w.heap[k]?=some (.deferred (some [])):=hp.blk (dblk k) (by simp)
  refine ⟨by simp,.inl ⟨k,_,rfl,run_takeDeferred hb,ih _ B ?_ h⟩⟩
  exact (hp.setObj (i:=0) (b:=dblk k) rfl (.deferred none)).weaken (by simp) (qBL _) (fun φ h=>h)
theorem ja {γ:Type}{V:γ→Value}{B1:γ→List BlkD}{R1:γ→List RowD}{x:ρ}{e:Exit}(Ds:List Nat)(g:γ){v:Value}(he:e=.ret∨e=.normal)(hD:D=Ds.map mark)(hT:Takes B (Ds.map dblk) B')(hres:∀ a w',Fr n [] a l→Hp M0 w w' B' R F→(results fn a.tmps).run P w'=.ok v w')(hv:x=r→v=V g)(hB:x=r→Pick B' (B1 g))(hR:x=r→Pick R (R1 g)) :
  SXQ n D M0 w (bodyPostM (Wd none) 0 P fn fun e w'=>∃ g:γ,e=.returned (V g)∧Hp M0 w w' (B1 g) (R1 g) []) e l B R F (some x) r:=by
 intro hm a w' hf hp
 have hx:x=r:=by grind
 have:LeavesInM (Wd none) 0 P fn a.tmps (fun e w'=>∃ g:γ,e=.returned (V g)∧Hp M0 w w' (B1 g) (R1 g) []) a.defers .returning w':=by
  rw[hf.defers,hD]
  refine qnT (v:=v) (R:=R) (F:=F) Ds w' B' (hp.perm hT.perm (qBM _)) fun w2 hp2=>⟨?_,g,by grind,hp2.pick (hB hx) (hR hx) (by simp)⟩
  exact hres { tmps:=a.tmps,defers:=[] } w2 ⟨rfl,hf.size,hf.val⟩ hp2
 rcases he with rfl | rfl
 ·exact this
 ·exact this
theorem qxH (hn:fn.ntmps=N)(hvl:Nat.ble vs.length N=true):Fr N [] { tmps:=vs.toArray++Array.replicate (fn.ntmps-vs.toArray.size) undef,defers:=[] } (vs.zipIdx.map fun p=>(p.2,p.1)):=by
 have hvl':vs.length≤N:=by simp_all
 refine ⟨rfl,by simp_all,fun i v hv=>?_⟩
 have key:∀ (vs:List Value) (k i:Nat) (v:Value),look ((vs.zipIdx k).map fun p=>(p.2,p.1)) i=some v→k≤i∧vs[i-k]?=some v:=by
  intro vs
  induction vs with
  | nil=>intro k i v hv;simp[look] at hv
  | cons u vs ih =>
   intro k i v hv
   simp only[qCA,qB2] at hv
   rw[qab] at hv
   split at hv
   ·simp_all
   grind
 grind
theorem qdg {c:Code}{γ:Type}{V:γ→Value}{B1:γ→List BlkD}{R1:γ→List RowD}(hfn:P.funcs[f]?=some fn)(hb:fn.body=some c)(hn:fn.ntmps=N)(hvl:Nat.ble vs.length N=true)(hm:m=some r)(h:∀ w,SXC P none N [] (muts B0 R0) w (bodyPostM (Wd none) 0 P fn fun e w'=>∃ g:γ,e=.returned (V g)∧Hp (muts B0 R0) w w' (B1 g) (R1 g) []) c (vs.zipIdx.map fun p=>(p.2,p.1)) B0 R0 Φ m r):PureM P f vs B0 R0 Φ γ V B1 R1:=by
 intro w hp
 refine (callsIn_wide (n:=0)).1 (callsIn_of_wp_marks hfn hb trivial (h w hm _ w ?_ hp))
 exact qxH hn hvl
structure Rounds (σ τ:Type) where
 γ:Type
 δ:Type
 IB:σ→γ→List BlkD
 IR:σ→γ→List RowD
 XB:τ→δ→List BlkD
 XR:τ→δ→List RowD
 F:World→Prop
abbrev Rounds.G {σ τ:Type} (J:Rounds σ τ):σ ⊕ τ→Type
 | .inl _=>J.γ
 | .inr _=>J.δ
abbrev Rounds.bs {σ τ:Type} (J:Rounds σ τ):(z:σ ⊕ τ)→J.G z→List BlkD
 | .inl s=>fun g=>J.IB s g
 | .inr t=>fun g=>J.XB t g
abbrev Rounds.rs {σ τ:Type} (J:Rounds σ τ):(z:σ ⊕ τ)→J.G z→List RowD
 | .inl s=>fun g=>J.IR s g
 | .inr t=>fun g=>J.XR t g
def YieldC {σ τ α:Type}(P:Program)(L:Nat)(encs:α→List Value)(J:Rounds σ τ)(y:σ→α→Option (σ ⊕ τ)):Prop :=
 ∀ s x r,y s x=some r→∀ (g:J.γ) w,Hp (muts (J.IB s g) (J.IR s g)) w w (J.IB s g) (J.IR s g) [J.F] →
  YieldAt (Wd none) 0 P L (encs x).toArray w fun e w'=>e=.returned (.bool r.isLeft)∧∃ g',Hp (muts (J.IB s g) (J.IR s g)) w w' (J.bs r g') (J.rs r g') []
theorem qmR {α:Type}:∀ {R:List α},Pick R R
 | []=>.nil
 | _::_=>.cons 0 rfl qmR
theorem qe {α:Type}:∀ {R S:List α} (i:Nat),R.drop i=S→Pick R S
 | _,_,0,rfl=>qmR
 | [],_,i+1,h=>by simp at h;subst h;exact .nil
 | a::R,S,i+1,h=>by
  have h1:Pick R S:=qe i (by grind)
  have key:∀ {R S:List α} {a:α},Pick R S→Pick (a::R) S:=by
   intro R S a h
   induction h generalizing a with
   | nil=>exact .nil
   | cons i h _ ih=>exact .cons (i+1) (by grind) (by grind)
  simp_all
theorem v8 {τ:Type}{J:Rounds σ τ}{x z:σ ⊕ τ}{e:Exit}{v:Value}(g:J.G x)(he:e=.ret∨e=.normal)(hres:∀ a w',Fr n [] a l→Hp M0 w w' B R F→(results fn a.tmps).run P w'=.ok v w')(hB:Pick B (B0++J.bs x g))(hR:Pick R (J.rs x g)) :
  SXQ n [] M0 w (bodyPost P fn fun e w'=>∃ g:J.G z,e=.returned v∧Hp M0 w w' (B0++J.bs z g) (J.rs z g) []) e l B R F (some x) z:=by
 intro hm a w' hf hp
 obtain rfl:x=z:=by grind
 have:∃ v',(results fn a.tmps).run P w'=.ok v' w'∧∃ g:J.G x,Ending.returned v'=.returned v∧Hp M0 w w' (B0++J.bs x g) (J.rs x g) [] :=
  ⟨v,hres a w' hf hp,g,rfl,hp.pick hB hR (by simp)⟩
 rcases he with rfl | rfl
 ·exact ⟨hf.defers,this⟩
 ·exact ⟨hf.defers,this⟩
theorem qeT {τ:Type}{encs:α→List Value}{J:Rounds σ τ}{y:σ→α→Option (σ ⊕ τ)}{L:Nat}(hY:YieldC P L encs J y)(s:σ)(x:α)(g:J.γ){xs:Array Operand}{B1:List BlkD}{R1:List RowD}{k1:σ→Option ρ}{k2:τ→Option ρ}(hw:wants ops l ⟨some d,.call ⟨.value x0,xs,tys⟩,t,pos,af,gd⟩=some true)(h0:ev l x0=some (.func (.yield L) #[] #[]))(hx:evArgs l xs.toList=some (encs x))(hd:Nat.blt d n=true)(hB:B=B1++J.IB s g)(hR:R=R1++J.IR s g)(hF:F[j]?=some J.F)(h1:∀ s',y s x=some (.inl s')→∀ g',SXO P ro n D M0 w0 Q ops rest ((d,.bool true)::l) (B1++J.IB s' g') (R1++J.IR s' g') F (k1 s') r)(h2:∀ t,y s x=some (.inr t)→∀ g',SXO P ro n D M0 w0 Q ops rest ((d,.bool false)::l) (B1++J.XB t g') (R1++J.XR t g') F (k2 t) r) :
  SXO P ro n D M0 w0 Q ops (⟨some d,.call ⟨.value x0,xs,tys⟩,t,pos,af,gd⟩::rest) l B R F ((y s x).bind (Sum.elim k1 k2)) r:=by
 intro hm a w hf hp
 cases hq:y s x with
 | none=>simp_all
 | some z =>
  rw[hq] at hm
  have hm':Sum.elim k1 k2 z=some r:=by grind
  subst hB hR
  have hp':=hp.perm (qCl) (qCl)
  have hst:Hp (muts (J.IB s g) (J.IR s g)) w w (J.IB s g) (J.IR s g) [J.F]:=by
   refine hp'.startM fun φ hφ=>?_
   simp only[qBD] at hφ
   subst hφ
   exact (hp'.per _ (qBl hF)).less fun k hk=>qgo.mem_iff.2 (qBn.2 (.inl hk))
  obtain ⟨fn,tmps,asg,body,hrun,hR2⟩:=hY s x z hq g w hst
  have hrun2:(execOp a.eval ⟨some d,.call ⟨.value x0,xs,tys⟩,t,pos,af,gd⟩).run P w=.ok (.round L fn tmps asg body) w:=by
   have e1:=hf.ev h0
   have e2:=hf.evArgs hx
   have e3:xs.map a.eval=(encs x).toArray:=by grind
   grind [execOp,resolve,Deferred.ofValue,invoke]
  refine qdA (zg hf hw) (yN hw) ?_
  rw[hrun2]
  refine ⟨fun hd=>by simp[Wd] at hd,?_⟩
  refine RoundIn.mono (show RoundIn (Wd ro) 0 P L fn tmps asg body w _ from hR2) ?_
  rintro e w' ⟨rfl,g',hp2⟩
  have hp3:=(hp'.callM hp2).perm (qCl) (qCl)
  cases z with
  | inl s'=>exact h1 s' hq g' hm' _ _ (hf.put hd _) hp3
  | inr u=>exact h2 u hq g' hm' _ _ (hf.put hd _) hp3
abbrev rdy (rc:Loop):Loop:={ rc with state:=.ready,pending:=none }
abbrev bsy (rc:Loop):Loop:={ rc with state:=.busy,pending:=none }
abbrev don (rc:Loop) (c:Code):Loop:={ rc with state:=.done,pending:=some c }
abbrev rnds {σ τ γ δ:Type} (IB:σ→γ→List BlkD) (IR:σ→γ→List RowD) (XB:τ→δ→List BlkD) (XR:τ→δ→List RowD) (jump:τ→Code) (F:List (World→Prop)) (rc:Loop) (L Dk:Nat):Rounds σ τ where
 γ:=γ
 δ:=δ
 IB:=fun s g=>IB s g++[blkO L (.loop (rdy rc)),dblk Dk]
 IR:=IR
 XB:=fun t g=>XB t g++[blkO L (.loop (don rc (jump t))),dblk Dk]
 XR:=XR
 F:=fun w=>∀ φ∈F,φ w
def qsN (P:Program){σ τ:Type}(J:Rounds σ τ)(L:Nat)(M:List Nat)(w:World)(z:σ ⊕ τ):Exit→Act→World→Prop :=
 roundPost P L (fun e w'=>e=.returned (.bool z.isLeft)∧∃ g',Hp M w w' (J.bs z g') (J.rs z g') [])
theorem qhM {L:Nat}{rc:Loop}{body:Code}(hB:B[i]?=some (blkO L (.loop (rdy rc))))(h:SXC P (some L) n [] M0 w0 Q body l (B.set i (blkO L (.loop (bsy rc)))) R F m r) :
  SXQ n [] M0 w0 (Exit.then (fun a1 w1=>∃ w2,(Instr.beginRound L).run P w1=.ok () w2∧gwp (some L) P body Q a1 w2) (fun _ _ _=>False)) .normal l B R F m r:=by
 intro hm a w hf hp
 have hb:w.heap[L]?=some (.loop (rdy rc)):=hp.blk (blkO L (.loop (rdy rc))) (qBl hB)
 exact ⟨_,run_beginRound hb rfl,h hm _ _ hf (hp.setObj hB (.loop (bsy rc)))⟩
def jumpOf:Exit→Option Code
 | .ret=>some .ret
 | .exit id=>some (.exit id)
 | _=>none
def isJump:Exit→Bool
 | .ret=>true
 | .exit _=>true
 | .normal=>true
 | _=>false
theorem vk {τ:Type}{J:Rounds σ τ}{L:Nat}{rc:Loop}{x z:σ ⊕ τ}{e:Exit}(he:isJump e=true)(hT:Takes B [blkO L (.loop (bsy rc))] B')(hl:x.isLeft=(jumpOf e).isNone)(g':J.G x)(hB:Pick (blkO L (.loop { rc with state:=if (jumpOf e).isNone then .ready else .done,pending:=jumpOf e })::B') (J.bs x g'))(hR:Pick R (J.rs x g')) :
  SXQ n [] M0 w0 (qsN P J L M0 w0 z) e l B R F (some x) z:=by
 intro hm a w hf hp
 obtain rfl:x=z:=by grind
 have hp':=hp.perm hT.perm (qBM _)
 have hb:w.heap[L]?=some (.loop (bsy rc)):=hp'.blk (blkO L (.loop (bsy rc))) (by simp)
 have h2:=(hp'.setObj (i:=0) (b:=blkO L (.loop (bsy rc))) rfl (.loop { rc with state:=if (jumpOf e).isNone then .ready else .done,pending:=jumpOf e })).pick hB hR (F':=[]) (by simp)
 have key:∃ v w',(Instr.endRound L (jumpOf e)).run P w=.ok v w'∧(Ending.returned v=.returned (.bool x.isLeft)∧∃ g',Hp M0 w0 w' (J.bs x g') (J.rs x g') []) :=
  ⟨_,_,run_endRound (jumpOf e) hb,by rw[hl],g',h2⟩
 cases e <;> first | exact key | cases he
theorem qtx {xs:List (Tmp×Value)}:∀ {a:Array Value} {l:Env},(∀ p∈xs,p.1<n)→Fr n [] { tmps:=a,defers:=[] } l→Fr n [] { tmps:=xs.foldl (fun t (p,v)=>t.setIfInBounds p v) a,defers:=[] } (xs.foldl (fun l p=>(p.1,p.2)::l) l):=by
 induction xs with
 | nil=>simp
 | cons x xs ih =>
  intro a l hn h
  obtain ⟨p,v⟩:=x
  refine ih (fun q hq=>hn q (qBz _ hq)) ?_
  have hp:=hn (p,v) (by simp)
  have:=h.put (d:=p) (v:=v) (by simpa using hp)
  exact this
theorem qbU {τ γ δ:Type}{encs:α→List Value}{y:σ→α→Option (σ ⊕ τ)}{gop:Operand}{ps:Array Tmp}{assign body:Code}{gf:FuncId}{lb:List Value}{mi:Option (σ ⊕ τ)}{k1:σ→Option ρ}{k2:τ→Option ρ}(IB:σ→γ→List BlkD)(IR:σ→γ→List RowD)(XB:τ→δ→List BlkD)(XR:τ→δ→List RowD)(jump:τ→Code)(s0:σ)(g0:γ)(hg:ev l gop=some (.func (.func gf) #[] lb.toArray))(he:Enters P gf)(hps:∀ x,(encs x).length=ps.size)(hpn:ps.toList.all (fun p=>Nat.blt p n)=true)(hB0:Takes B B0 B')(hB1:Takes B' (IB s0 g0) BS)(hR:Takes R (IR s0 g0) RS)(hΦ:ArgsM RS F Φ)(hC:∀ z,mi=some z→∀ rc L Dk,YieldC P L encs (rnds IB IR XB XR jump F rc L Dk) y →
   PureM P gf (.func (.yield L) #[] #[]::lb) (B0++(rnds IB IR XB XR jump F rc L Dk).IB s0 g0) (IR s0 g0) ((rnds IB IR XB XR jump F rc L Dk).F::Φ) ((rnds IB IR XB XR jump F rc L Dk).G z) (fun _=>.tuple #[])
    (fun g=>B0++(rnds IB IR XB XR jump F rc L Dk).bs z g) (fun g=>(rnds IB IR XB XR jump F rc L Dk).rs z g))(hbody:∀ rc L Dk s g x z w M,M=muts (IB s g++[blkO L (.loop (rdy rc)),dblk Dk]) (IR s g) →
   SXC P (some L) n [] M w (Exit.then (fun a1 w1=>∃ w2,(Instr.beginRound L).run P w1=.ok () w2∧gwp (some L) P body (qsN P (rnds IB IR XB XR jump F rc L Dk) L M w z) a1 w2) (fun _ _ _=>False))
    assign ((ps.toList.zip (encs x)).foldl (fun l p=>(p.1,p.2)::l) l) (IB s g++[blkO L (.loop (rdy rc)),dblk Dk]) (IR s g) F (y s x) z)(hdone:∀ s,mi=some (.inl s)→∀ g Dk,SXQ n (mark Dk::D) M0 w0 Q .normal l (dblk Dk::(B0++(IB s g++BS))) (IR s g++RS) F (k1 s) r)(hstop:∀ t,mi=some (.inr t)→∀ g Dk,SXC P none n (mark Dk::D) M0 w0 Q (jump t) l (dblk Dk::(B0++(XB t g++BS))) (XR t g++RS) F (k2 t) r) :
  SXC P none n D M0 w0 Q (.rangeFunc gop ps assign body) l B R F (mi.bind (Sum.elim k1 k2)) r:=by
 intro hm a w hf hp
 cases hq:mi with
 | none=>simp_all
 | some z =>
 rw[hq] at hm
 have hm':Sum.elim k1 k2 z=some r:=by grind
 refine wpIn_rangeFunc ?_
 intro fn _
 obtain ⟨rc,hrc⟩:∃ rc:Loop,rc={ state:=.ready,pending:=none,fn,tmps:=a.tmps,params:=ps,assign,body,defers:=w.heap.size }:=⟨_,rfl⟩
 obtain ⟨L,hL⟩:∃ L,L=w.heap.size+1:=⟨_,rfl⟩
 obtain ⟨Dk,hDk⟩:∃ Dk,Dk=w.heap.size:=⟨_,rfl⟩
 obtain ⟨W1,hW1⟩:∃ W1,(w.alloc (.deferred (some []))).alloc (.loop (rdy rc))=W1:=⟨_,rfl⟩
 have hp1:Hp M0 w0 W1 (blkO L (.loop (rdy rc))::dblk Dk::B) R F:=by
  rw[← hW1]
  have:=(hp.allocO (.deferred (some []))).allocO (.loop (rdy rc))
  simp_all
 have hp2:Hp M0 w0 W1 ((B0++(IB s0 g0++[blkO L (.loop (rdy rc)),dblk Dk]))++BS) (IR s0 g0++RS) F:=by
  refine hp1.perm ?_ hR.perm
  refine (qDo [_,_] (hB0.perm.trans (qDo _ hB1.perm))).trans ?_
  grind [qDi,qCl]
 have hY:YieldC P L encs (rnds IB IR XB XR jump F rc L Dk) y:=by
  intro s x z hz g w1 hp
  have hb:w1.heap[L]?=some (.loop (rdy rc)):=hp.blk (blkO L (.loop (rdy rc))) (by simp)
  have hy:=run_yield (P:=P) (args:=(encs x).toArray) hb (by simp_all)
  refine ⟨_,_,_,_,hy,roundIn_of_wpIn trivial ?_⟩
  have hfacts:Hp (muts (IB s g++[blkO L (.loop (rdy rc)),dblk Dk]) (IR s g)) w1 w1 (IB s g++[blkO L (.loop (rdy rc)),dblk Dk]) (IR s g) F:=hp.facts fun φ hφ w' hk=>hp.per _ (qBD.2 rfl) w' hk φ hφ
  have hfr:Fr n [] { tmps:=((rdy rc).params.zip (encs x).toArray).foldl (fun tmps (t,a)=>tmps.setIfInBounds t a) (rdy rc).tmps,defers:=[] } ((ps.toList.zip (encs x)).foldl (fun l p=>(p.1,p.2)::l) l):=by
   have h0:Fr n [] { tmps:=a.tmps,defers:=[] } l:=⟨rfl,hf.size,hf.val⟩
   have h1:=qtx (xs:=ps.toList.zip (encs x)) (fun p hp=>by
    have:=(List.of_mem_zip hp).1
    rw[qBX] at hpn
    simp_all) h0
   rw[hrc]
   have h2:(ps.zip (encs x).toArray).foldl (fun tmps (t,a)=>tmps.setIfInBounds t a) a.tmps=(ps.toList.zip (encs x)).foldl (fun tmps (t,a)=>tmps.setIfInBounds t a) a.tmps:=by
    rw[← Array.foldl_toList]
    simp
   simp_all
  have:=hbody rc L Dk s g x z w1 _ rfl hz _ w1 hfr hfacts
  rw[hrc] at this ⊢
  exact this
 have hrun:=hC z hq rc L Dk hY W1 (hp2.startM fun φ hφ=>by
  rcases qBp.1 hφ with rfl | hφ
  ·intro w' hk φ hφ
   exact ((hp2.per _ hφ).less fun k hk=>qgo.mem_iff.2 (qBn.2 (.inl hk))) w' hk
  ·exact hΦ.ok hp2 φ hφ)
 refine ⟨L,[mark Dk],W1,{ target:=.fn (.func gf) lb.toArray,args:=#[.func (.yield L) #[] #[]] },W1,gf,#[.func (.yield L) #[] #[]]++lb.toArray,W1,?_,?_,fun _ _=>trivial,?_,fun h=>by simp[Wd] at h,?_⟩
 ·rw[← hW1,hrc,hL,hDk];exact run_enterLoop_outer _ _ _ _ _
 ·have e1:=hf.ev hg
  simp only[resolve,e1]
  simp[go_sem]
 ·simp[invoke,go_sem]
  exact he _ W1
 ·refine callsIn_wide.2 ?_
  have harr:(.func (.yield L) #[] #[]::lb:List Value).toArray=#[.func (.yield L) #[] #[]]++lb.toArray:=by simp
  rw[← harr]
  refine hrun.mono ?_
  rintro e w' ⟨g',rfl,hpe⟩
  have hp3:=hp2.callM hpe
  have hfr:Fr n (mark Dk::D) { a with defers:=[mark Dk]++a.defers } l:=⟨by simp[hf.defers],hf.size,hf.val⟩
  cases z with
  | inl s =>
   have hb:w'.heap[L]?=some (.loop (rdy rc)):=hp3.blk (blkO L (.loop (rdy rc))) (qBn.2 (.inl (qBn.2 (.inr (qBn.2 (.inr (by simp)))))))
   refine ⟨none,_,run_endLoop hb (by simp),?_⟩
   refine hdone s hq g' Dk hm' _ _ hfr ?_
   have hp4:Hp M0 w0 w' (blkO L (.loop (rdy rc))::(dblk Dk::(B0++(IB s g'++BS)))) (IR s g'++RS) F:=by
    refine hp3.perm ?_ (qBM _)
    show ((B0++(IB s g'++[blkO L (.loop (rdy rc)),dblk Dk]))++BS).Perm ([blkO L (.loop (rdy rc)),dblk Dk]++(B0++(IB s g'++BS)))
    grind [qDi,qCl]
   exact (hp4.setObj (i:=0) (b:=blkO L (.loop (rdy rc))) rfl _).weaken (by simp) (qBL _) (fun φ h=>h)
  | inr t =>
   have hb:w'.heap[L]?=some (.loop (don rc (jump t))):=hp3.blk (blkO L (.loop (don rc (jump t)))) (qBn.2 (.inl (qBn.2 (.inr (qBn.2 (.inr (by simp)))))))
   refine ⟨some (jump t),_,run_endLoop hb (by simp),?_⟩
   refine hstop t hq g' Dk hm' _ _ hfr ?_
   have hp4:Hp M0 w0 w' (blkO L (.loop (don rc (jump t)))::(dblk Dk::(B0++(XB t g'++BS)))) (XR t g'++RS) F:=by
    refine hp3.perm ?_ (qBM _)
    show ((B0++(XB t g'++[blkO L (.loop (don rc (jump t))),dblk Dk]))++BS).Perm ([blkO L (.loop (don rc (jump t))),dblk Dk]++(B0++(XB t g'++BS)))
    grind [qDi,qCl]
   exact (hp4.setObj (i:=0) (b:=blkO L (.loop (don rc (jump t)))) rfl _).weaken (by simp) (qBL _) (fun φ h=>h)
theorem qon {xs:Array Operand}(hw:wants ops l ⟨some d,.makeFunc (.func f) #[] xs,t,pos,af,gd⟩=some true)(hx:evArgs l xs.toList=some vs)(hd:Nat.blt d n=true)(h:SXO P ro n D M0 w0 Q ops rest ((d,.func (.func f) #[] vs.toArray)::l) B R F m r):SXO P ro n D M0 w0 Q ops (⟨some d,.makeFunc (.func f) #[] xs,t,pos,af,gd⟩::rest) l B R F m r :=
 qK _ hw rfl hd (fun a w hf _=>by
  have h2:=hf.evArgs hx
  have h3:xs.map a.eval=vs.toArray:=by grind
  generalize a.eval=ε at h3 ⊢
  simp[execOp,Instr.makeFunc,h3]) h
theorem qmU {xs:Array Operand}{cs:List Value}(hf:Fr n D a l)(he:Enters P f)(h0:ev l x0=some (.func (.func f) #[] cs.toArray))(hx:evArgs l xs.toList=some vs) :
  (execOp a.eval ⟨dst,.call ⟨.value x0,xs,tys⟩,t,pos,af,gd⟩).run P w=.ok (.enter f (vs++cs).toArray) w:=by
 have h1:=hf.ev h0
 have h2:=hf.evArgs hx
 have h3:xs.map a.eval=vs.toArray:=by grind
 have h4:=he (vs++cs).toArray w
 have h5:(vs++cs).toArray=vs.toArray++cs.toArray:=by simp
 grind [execOp,resolve,Deferred.ofValue,invoke]
theorem qj3 {γ:Type}{mg:Option α}{k:α→Option ρ}{xs:Array Operand}{cs:List Value}{V:α→γ→Value}{RW:α→γ→List RowD}{PH:α→γ→List (World→Prop)}(he:Enters P f)(h0:ev l x0=some (.func (.func f) #[] cs.toArray))(hw:wants ops l ⟨some d,.call ⟨.value x0,xs,tys⟩,t,pos,af,gd⟩=some true)(hx:evArgs l xs.toList=some vs)(hd:Nat.blt d n=true)(hC:∀ y,mg=some y→Pure P f (vs++cs) Φ γ (V y) (RW y) (PH y))(ha:Args R F Φ)(h:∀ y,mg=some y→∀ g,SXO P ro n D M0 w0 Q ops rest ((d,V y g)::l) B (RW y g++R) (PH y g++F) (k y) r) :
  SXO P ro n D M0 w0 Q ops (⟨some d,.call ⟨.value x0,xs,tys⟩,t,pos,af,gd⟩::rest) l B R F (mg.bind k) r:=by
 intro hm a w hf hp
 cases hq:mg with
 | none=>simp_all
 | some y =>
  rw[hq] at hm
  have hm':k y=some r:=by grind
  refine qdd (zg hf hw) (yN hw) (qmU hf he h0 hx) ((hC y hq w (Hp.start (ha.ok hp))).mono fun e w' ⟨g,h1,h2⟩=>⟨V y g,h1,?_⟩)
  exact h y hq g hm' _ _ (hf.put hd _) (hp.call h2)
theorem qfn {γ:Type}{mg:Option α}{k:α→Option ρ}{xs:Array Operand}{cs:List Value}{V:α→γ→Value}{B1:α→γ→List BlkD}{R1:α→γ→List RowD}(he:Enters P f)(h0:ev l x0=some (.func (.func f) #[] cs.toArray))(hw:wants ops l ⟨some d,.call ⟨.value x0,xs,tys⟩,t,pos,af,gd⟩=some true)(hx:evArgs l xs.toList=some vs)(hd:Nat.blt d n=true)(hC:∀ y,mg=some y→PureM P f (vs++cs) B0 R0 Φ γ (V y) (B1 y) (R1 y))(hB:Takes B B0 BS)(hR:Takes R R0 RS)(ha:ArgsM RS F Φ)(h:∀ y,mg=some y→∀ g,SXO P ro n D M0 w0 Q ops rest ((d,V y g)::l) (B1 y g++BS) (R1 y g++RS) F (k y) r) :
  SXO P ro n D M0 w0 Q ops (⟨some d,.call ⟨.value x0,xs,tys⟩,t,pos,af,gd⟩::rest) l B R F (mg.bind k) r:=by
 intro hm a w hf hp
 cases hq:mg with
 | none=>simp_all
 | some y =>
  rw[hq] at hm
  have hm':k y=some r:=by grind
  have hp':=hp.perm hB.perm hR.perm
  refine qdd (zg hf hw) (yN hw) (qmU hf he h0 hx) ((hC y hq w (hp'.startM (ha.ok hp'))).mono fun e w' ⟨g,h1,h2⟩=>⟨V y g,h1,?_⟩)
  exact h y hq g hm' _ _ (hf.put hd _) (hp'.callM h2)
theorem qmJ {i:Nat}{v:Value}:∀ (l':Env),(∀ p∈l',look l p.1=some p.2)→look l' i=some v→look l i=some v
 | [],_,h=>by simp[look] at h
 | (k,u)::l',h,hv=>by
  rw[qab] at hv
  split at hv
  ·simp_all
  ·exact qmJ l' (fun p hp=>h p (qBz _ hp)) hv
theorem qdk {c:Code}(l':Env)(h:∀ p∈l',look l p.1=some p.2)(hc:SXC P ro n D M0 w0 Q c l' B R F m r):SXC P ro n D M0 w0 Q c l B R F m r :=
 fun hm a w hf hp=>hc hm a w ⟨hf.defers,hf.size,fun i v hv=>hf.val i v (qmJ l' h hv)⟩ hp
def opK (ro:Option Nat)(P:Program)(ops:Array Oper)(Q:Exit→Act→World→Prop)(i:Nat)(K:Act→World→Prop)(a:Act)(w:World):Prop:=wpOpIn (Wd ro) 0 P ops Q i K a w
def anyK (ro:Option Nat)(P:Program)(ops:Array Oper)(Q:Exit→Act→World→Prop)(S:Array Bool→World→Prop):Nat→Array Bool→Act→World→Prop
 | 0,done,a,w=>Region.ready .any ops done=[]∧Q .normal a w
 | fuel+1,done,a,w=>(Region.ready .any ops done=[]→Q .normal a w) ∧
  ∀ i∈Region.ready .any ops done,opK ro P ops Q i (fun a' w'=>S (done.setIfInBounds i true) w'∧anyK ro P ops Q S fuel (done.setIfInBounds i true) a' w') a w
theorem qin {S:Array Bool→World→Prop}:∀ (fuel:Nat) (done:Array Bool) (a:Act) (w:World),anyK ro P ops Q S fuel done a w→wpAnyIn (Wd ro) 0 P .any ops Q fuel done a w
 | 0,_,_,_,h=>h
 | fuel+1,_,_,_,h=>⟨h.1,fun i hi=>wpOpIn_mono (fun a' w' h'=>qin fuel _ a' w' h'.2) (h.2 i hi)⟩
def calmA (ops:Array Oper):Bool:=ops.all fun o=>calm o
theorem qio (h:calmA ops=true)(ho:ops[j]?=some o):∀ c,o.op≠.defer c:=by
 have:=Array.all_eq_true_iff_forall_mem.1 h o (Array.mem_of_getElem? ho)
 grind [calm]
def YI (P:Program)(ops:Array Oper)(T:World→Prop)(o:Oper)(v:Value)(a:Act):Prop :=
 (Region.wanted o (yielded ops a.tmps)=true∧∀ w,T w→(execOp a.eval o).run P w=.ok (.value v) w)∨(Region.wanted o (yielded ops a.tmps)=false∧v=undef)
theorem YI.of_same {T:World→Prop}{v:Value}{a':Act}(hy:YI P ops T o v a)(he:execOp a'.eval o=execOp a.eval o)(hw:Region.wanted o (yielded ops a'.tmps)=Region.wanted o (yielded ops a.tmps)):YI P ops T o v a':=by
 grind [YI]
theorem YI.op {T:World→Prop}{v:Value}(hi:ops[i]?=some o)(hc:∀ c,o.op≠.defer c)(hy:YI P ops T o v a){K:Act→World→Prop}(hT:T w)(h:K (a.put o.dst v) w):opK ro P ops Q i K a w:=by
 unfold opK wpOpIn
 simp only[hi]
 rcases hy with ⟨hw,hv⟩ | ⟨hw,rfl⟩
 ·rw[if_pos hw]
  refine ⟨fun _ _=>trivial,?_⟩
  rw[Oper.semAt_eq _ _ _ hc,hv w hT]
  exact h
 ·rw[if_neg (by simp_all)]
  exact ⟨fun _ _=>trivial,h⟩
theorem qx2 {T:World→Prop}{oj:Oper}{v:Value}(hj:ops[j]?=some oj)(hcj:∀ c,oj.op≠.defer c)(hap:oi.apart ops oj=true)(hsi:∀ cs b,oi.op≠.select cs b)(hsj:∀ cs b,oj.op≠.select cs b)(hQ:∀ c a w,Q (.panic c) (a.put oi.dst v) w→Q (.panic c) a w){K:Act→World→Prop}(hy:YI P ops T oi v a)(h:opK ro P ops Q j K (a.put oi.dst v) w) :
  opK ro P ops Q j (fun a' w'=>YI P ops T oi v a'∧K (a'.put oi.dst v) w') a w:=by
 obtain ⟨h1,h2,h3⟩:=Oper.apart_spec hap
 have keep:∀ (a:Act),YI P ops T oi v a→∀ u,YI P ops T oi v (a.put oj.dst u):=fun a hy u=>hy.of_same (execOp_put oi hsi a oj.dst u h3) (wanted_put oi a oj.dst u h3)
 unfold opK wpOpIn at *
 simp only[hj] at *
 rw[wanted_put oj a oi.dst v h1] at h
 split
 ·rename_i hw
  rw[if_pos hw] at h
  refine ⟨fun _ _=>trivial,?_⟩
  have h':=h.2
  rw[Oper.semAt_eq _ _ _ hcj] at h' ⊢
  rw[execOp_put oj hsj a oi.dst v h1] at h'
  generalize (execOp a.eval oj).run P w=x at h' ⊢
  cases x with
  | ok n w' =>
   cases n with
   | value u=>exact ⟨keep a hy u,by rw[← Act.put_comm a v u h2];exact h'⟩
   | skip=>exact ⟨keep a hy _,by rw[← Act.put_comm a v undef h2];exact h'⟩
   | defer d =>
    refine ⟨keep { a with defers:=d::a.defers } (hy.of_same rfl rfl) _,?_⟩
    rw[← Act.put_comm _ v undef h2,← Act.put_defers]
    exact h'
   | enter f args =>
    refine ⟨h'.1,h'.2.mono fun e w'' he=>?_⟩
    grind [Act.put_comm]
   | row row args=>exact ⟨h'.1,h'.2.mono fun u w'' he=>⟨keep a hy u,by grind [Act.put_comm]⟩⟩
   | round l f tmps asg body =>
    refine ⟨h'.1,h'.2.mono fun e w'' he=>?_⟩
    grind [Act.put_comm]
   | _=>exact h'
  | halt x w'=>cases x <;> first | exact hQ _ _ _ h' | exact h'
 ·rename_i hw
  rw[if_neg hw] at h
  exact ⟨fun _ _=>trivial,keep a hy _,by grind [Act.put_comm]⟩
def Closed (ops:Array Oper)(done:Array Bool):Prop:=∀ d o,ops[d]?=some o→done.getD d true=true→∀ e∈o.after,Region.binds .any e=true→done.getD e.on false=true
def qnF (ops:Array Oper)(done:Array Bool):Bool :=
 (List.range ops.size).all fun d=>!(done.getD d true) || (match ops[d]? with | some o=>o.after.all fun e=>!(Region.binds .any e) || done.getD e.on false | none=>true)
theorem qdy (h:qnF ops done=true):Closed ops done:=by
 intro d o ho hd e he hb
 have hlt:=(Array.getElem?_eq_some_iff.1 ho).1
 have:=qBX.1 h d (List.mem_range.2 hlt)
 rw[hd,ho] at this
 simp only[Bool.not_true,Bool.false_or] at this
 grind [Array.all_eq_true_iff_forall_mem]
theorem Closed.step (h:Closed ops done)(hj:j∈Region.ready .any ops done):Closed ops (done.setIfInBounds j true):=by
 intro d o ho hd e he hb
 obtain ⟨_,oj,hoj,hall⟩:=mem_ready.1 hj
 by_cases hjd:j=d
 ·grind [getD_set_true]
 ·rw[getD_set_ne true hjd] at hd
  exact getD_set_true (h d o ho hd e he hb)
def edgeB (ops:Array Oper)(c d:Nat):Bool:=match ops[d]? with | some o=>o.after.any fun e=>Region.binds .any e && e.on == c | none=>false
def chB (ops:Array Oper):Nat→List Nat→Nat→Bool
 | c,[],p=>c == p
 | c,d::ds,p=>edgeB ops c d && chB ops d ds p
theorem chain {done:Array Bool}(h:Closed ops done):∀ (ds:List Nat) (c p:Nat),chB ops c ds p=true→done.getD p true=true→done.getD c true=true
 | [],c,p,hc,hp=>by
  grind [chB]
 | d::ds,c,p,hc,hp=>by
  simp only[chB,qB6] at hc
  have hd:=chain h ds d p hc.2 hp
  have he:=hc.1
  unfold edgeB at he
  cases ho:ops[d]? with
  | none=>simp_all
  | some o =>
   rw[ho] at he
   simp only at he
   rw[Array.any_eq_true] at he
   obtain ⟨k,hk,hb⟩:=he
   simp only[qB6,beq_iff_eq] at hb
   have:=h d o ho hd o.after[k] (Array.getElem_mem hk) hb.1
   grind
theorem qct {T:World→Prop}{S:Array Bool→World→Prop}{v:Value}(hi:ops[i]?=some oi)(hcalm:calmA ops=true)(hsel:∀ (j:Nat) (o:Oper) cs b,ops[j]?=some o→o.op≠.select cs b)(hQ:∀ c a w,Q (.panic c) (a.put oi.dst v) w→Q (.panic c) a w)(hST:∀ done w,done.getD i true=false→Closed ops done→S done w→T w)(hSi:∀ done w,S (done.setIfInBounds i true) w→S done w)(hSm:∀ done w,S done w→S (done.setIfInBounds i true) w) :
  ∀ (fuel:Nat) (done:Array Bool) (a:Act) (w:World),
   (∀ j oj,ops[j]?=some oj→j≠i→done.getD j true=false→(∀ e∈oj.after,Region.binds .any e=true→e.on≠i)→oi.apart ops oj=true) →
   i∈Region.ready .any ops done→Closed ops done→YI P ops T oi v a→S done w →
   anyK ro P ops Q S fuel (done.setIfInBounds i true) (a.put oi.dst v) w→anyK ro P ops Q S (fuel+1) done a w:=by
 intro fuel
 induction fuel with
 | zero =>
  intro done a w _ hr hcl hy hS H
  refine ⟨fun h=>(by simp_all),fun j hj=>?_⟩
  by_cases hji:j=i
  ·subst hji
   exact hy.op hi (qio hcalm hi) (hST _ _ (mem_ready.1 hr).1 hcl hS) ⟨hSm _ _ hS,H⟩
  ·have:=ready_mono hj hji
   rw[H.1] at this
   grind
 | succ fuel ih =>
  intro done a w hfree hr hcl hy hS H
  refine ⟨fun h=>(by simp_all),fun j hj=>?_⟩
  by_cases hji:j=i
  ·subst hji
   exact hy.op hi (qio hcalm hi) (hST _ _ (mem_ready.1 hr).1 hcl hS) ⟨hSm _ _ hS,H⟩
  ·have h1:=H.2 j (ready_mono hj hji)
   obtain ⟨hjun,oj,hoj,hall⟩:=mem_ready.1 hj
   have hnot:∀ e∈oj.after,Region.binds .any e=true→e.on≠i:=fun e he hb heq=>by
    have h1:=hall e he hb
    grind [mem_ready]
   have h2:=qx2 hoj (qio hcalm hoj) (hfree j oj hoj hji hjun hnot) (fun cs b=>hsel i oi cs b hi) (fun cs b=>hsel j oj cs b hoj) hQ hy h1
   have hfree':∀ k ok,ops[k]?=some ok→k≠i→(done.setIfInBounds j true).getD k true=false→(∀ e∈ok.after,Region.binds .any e=true→e.on≠i)→oi.apart ops ok=true:=fun k ok hk hki hun hno=>by
    refine hfree k ok hk hki ?_ hno
    by_cases hjk:j=k
    ·grind
    ·rw[getD_set_ne true hjk] at hun;omega
   refine wpOpIn_mono (fun a' w' h3=>?_) h2
   have hS':S (done.setIfInBounds j true) w':=hSi _ _ (by grind [Array.setIfInBounds_comm])
   refine ⟨hS',ih (done.setIfInBounds j true) a' w' hfree' (ready_mono hr (Ne.symm hji)) (hcl.step hj) h3.1 hS' ?_⟩
   grind [Array.setIfInBounds_comm]
variable {Bs:List BlkD}{Fs:List (World→Prop)}{ps:List Nat}
def Sh (ps:List Nat)(Bs:List BlkD)(Fs:List (World→Prop))(done:Array Bool)(w:World):Prop:=(∀ b∈Bs,b.is w)∧((∀ p∈ps,done.getD p true=false)→∀ φ∈Fs,φ w)
def SXB (P:Program)(ro:Option Nat)(ps:List Nat)(n:Nat)(D:List Deferred)(M0:List Nat)(w0:World)(Q:Exit→Act→World→Prop){ρ:Type}(ops:Array Oper)(Bs:List BlkD)(Fs:List (World→Prop))(fuel:Nat)(done:Array Bool)
  (l:Env) (B:List BlkD) (R:List RowD) (F:List (World→Prop)) (m:Option ρ) (r:ρ):Prop :=
 m=some r→∀ a w,Fr n D a l→Hp M0 w0 w B R F→Sh ps Bs Fs done w→anyK ro P ops Q (Sh ps Bs Fs) fuel done a w
theorem qf:∀ φ∈([]:List (World→Prop)),φ∈F∨(∃ rd∈R,∀ w,Cells rd.v rd.n rd.size rd.cs w→φ w)∨∃ b∈B,∀ w,b.is w→φ w:=by simp
theorem qh {φ:World→Prop}{r:List (World→Prop)}(j:Nat)(h:F[j]?=some φ)(hr:∀ φ∈r,φ∈F∨(∃ rd∈R,∀ w,Cells rd.v rd.n rd.size rd.cs w→φ w)∨∃ b∈B,∀ w,b.is w→φ w) :
  ∀ ψ∈(φ::r),ψ∈F∨(∃ rd∈R,∀ w,Cells rd.v rd.n rd.size rd.cs w→ψ w)∨∃ b∈B,∀ w,b.is w→ψ w:=by
 grind
theorem qB {φ:World→Prop}{r:List (World→Prop)}(j:Nat){rd:RowD}(h:R[j]?=some rd)(hφ:∀ w,Cells rd.v rd.n rd.size rd.cs w→φ w)(hr:∀ φ∈r,φ∈F∨(∃ rd∈R,∀ w,Cells rd.v rd.n rd.size rd.cs w→φ w)∨∃ b∈B,∀ w,b.is w→φ w) :
  ∀ ψ∈(φ::r),ψ∈F∨(∃ rd∈R,∀ w,Cells rd.v rd.n rd.size rd.cs w→ψ w)∨∃ b∈B,∀ w,b.is w→ψ w:=by
 intro p hp
 rcases qBp.1 hp with rfl | hp
 ·exact .inr (.inl ⟨rd,qBl h,hφ⟩)
 simp_all
theorem qgl {r:List (World→Prop)}(j:Nat){b:BlkD}(h:B[j]?=some b)(hr:∀ φ∈r,φ∈F∨(∃ rd∈R,∀ w,Cells rd.v rd.n rd.size rd.cs w→φ w)∨∃ b∈B,∀ w,b.is w→φ w) :
  ∀ ψ∈(b.is::r),ψ∈F∨(∃ rd∈R,∀ w,Cells rd.v rd.n rd.size rd.cs w→ψ w)∨∃ b∈B,∀ w,b.is w→ψ w:=by
 intro p hp
 rcases qBp.1 hp with rfl | hp
 ·exact .inr (.inr ⟨b,qBl h,fun _ h=>h⟩)
 simp_all
theorem qdh (hp:Hp M0 w0 w B R F)(hB:Pick B Bs)(hF:∀ φ∈Fs,φ∈F∨(∃ rd∈R,∀ w,Cells rd.v rd.n rd.size rd.cs w→φ w)∨∃ b∈B,∀ w,b.is w→φ w):Stay Bs Fs w:=by
 have h:=hp.pick (B':=Bs) (R':=[]) (F':=[]) hB .nil (by simp)
 refine ⟨h.blk,fun φ hφ=>?_⟩
 rcases hF φ hφ with h1 | ⟨rd,h1,h2⟩ | ⟨b,h1,h2⟩
 ·exact (hp.per φ h1).here
 ·exact h2 w (zd (hp.row rd h1))
 ·exact h2 w (hp.blk b h1)
theorem kg {id:Nat}{os:List Oper}(hm:P.follows .mixedOrders=true)(ps:List Nat)(Bs:List BlkD)(Fs:List (World→Prop))(hB:Pick B Bs)(hF:∀ φ∈Fs,φ∈F∨(∃ rd∈R,∀ w,Cells rd.v rd.n rd.size rd.cs w→φ w)∨∃ b∈B,∀ w,b.is w→φ w)(k:Nat)(hk:os.length=k)(h:SXB P ro ps n D M0 w0 (yx Q) os.toArray Bs Fs k (Array.replicate k false) l B R F m r):SXC P ro n D M0 w0 Q (.region id os.toArray true) l B R F m r:=by
 intro hmm a w hf hp
 refine qi5 (Q:=yx Q) (wpIn_region_any hm ?_) fun e a w hq=>?_
 ·have hp':Hp M0 w0 { w with drawn:=w.drawn+1 } B R F:=hp.step (Keeps.of_heap rfl rfl rfl rfl)
  have:=h hmm a _ hf hp' ⟨(qdh hp' hB hF).1,fun _=>(qdh hp' hB hF).2⟩
  grind [qin]
 ·cases e <;> first | exact hq | exact hq.elim
def chsB (ops:Array Oper)(i:Nat):List (List Nat)→List Nat→Bool
 | [],[]=>true
 | c::cs,p::ps=>chB ops i c p && chsB ops i cs ps
 | _,_=>false
theorem qrW {i:Nat}{done:Array Bool}(hcl:Closed ops done)(hd:done.getD i true=false):∀ (cs:List (List Nat)) (ps:List Nat),chsB ops i cs ps=true→∀ p∈ps,done.getD p true=false
 | [],[],_,p,hp=>by grind
 | c::cs,q::ps,h,p,hp=>by
  simp only[chsB,qB6] at h
  rcases qBp.1 hp with rfl | hp
  ·grind [chain]
  ·exact qrW hcl hd cs ps h.2 p hp
 | [],_::_,h,_,_=>by simp[chsB] at h
 | _::_,[],h,_,_=>by simp_all
theorem Sh.set (hi:ps.contains i=false):Sh ps Bs Fs (done.setIfInBounds i true) w↔Sh ps Bs Fs done w:=by
 have key:∀ p∈ps,(done.setIfInBounds i true).getD p true=done.getD p true:=fun p hp=>getD_set_ne true (by grind)
 grind [Sh]
def okP (ops:Array Oper)(ps:List Nat)(done:Array Bool)(i d n:Nat):Bool :=
 calmA ops && (Region.noSelect ops && (Region.free .any ops done i && ((Region.ready .any ops done).contains i && (qnF ops done && (!ps.contains i && Nat.blt d n)))))
theorem qgL (h:okP ops ps done i d n=true):calmA ops=true∧Region.noSelect ops=true∧Region.free .any ops done i=true∧(Region.ready .any ops done).contains i=true∧qnF ops done=true∧ps.contains i=false∧Nat.blt d n=true:=by
 unfold okP at h
 simp_all
theorem qz (i:Nat)(V:Value)(cs:List (List Nat))(ho:ops[i]?=some o)(hd:o.dst=some d)(hw:wants ops l o=some true)(hy:Yv P l Bs Fs o V)(h:SXB P ro ps n D M0 w0 (yx Q) ops Bs Fs fuel (done.setIfInBounds i true) ((d,V)::l) B R F m r)(hk:okP ops ps done i d n=true:=by kernel_rfl)(hch:chsB ops i cs ps=true:=by kernel_rfl):SXB P ro ps n D M0 w0 (yx Q) ops Bs Fs (fuel+1) done l B R F m r:=by
 intro hm a w hf hp hS
 obtain ⟨hca,hs,hfr,hr,hcl,hni,hdn⟩:=qgL hk
 refine qct (S:=Sh ps Bs Fs) (T:=Stay Bs Fs) (v:=V) ho hca (Region.noSelect_spec hs) (fun c a w h=>h) (fun done w h1 h2 h3=>⟨h3.1,h3.2 (qrW h2 h1 cs ps hch)⟩) (fun _ _ h=>(Sh.set hni).1 h) (fun _ _ h=>(Sh.set hni).2 h) fuel done a w (Region.free_spec ho hfr) (by grind) (qdy hcl)
  (.inl ⟨zg hf hw,fun w' hS'=>hy n D a w' hf hS'⟩) hS ?_
 rw[hd]
 exact h hm _ _ (hf.put hdn _) hp ((Sh.set hni).2 hS)
theorem qr (i:Nat)(V:Value)(ho:ops[i]?=some o)(hd:o.dst=some d)(hw:wants ops l o=some true)(hy:Yv P l Bs [] o V)(h:SXB P ro ps n D M0 w0 (yx Q) ops Bs Fs fuel (done.setIfInBounds i true) ((d,V)::l) B R F m r)(hk:okP ops ps done i d n=true:=by kernel_rfl):SXB P ro ps n D M0 w0 (yx Q) ops Bs Fs (fuel+1) done l B R F m r:=by
 intro hm a w hf hp hS
 obtain ⟨hca,hs,hfr,hr,hcl,hni,hdn⟩:=qgL hk
 refine qct (S:=Sh ps Bs Fs) (T:=fun w=>∀ b∈Bs,b.is w) (v:=V) ho hca (Region.noSelect_spec hs) (fun c a w h=>h) (fun _ _ _ _ h=>h.1) (fun _ _ h=>(Sh.set hni).1 h) (fun _ _ h=>(Sh.set hni).2 h) fuel done a w (Region.free_spec ho hfr) (by grind) (qdy hcl)
  (.inl ⟨zg hf hw,fun w' h=>hy n D a w' hf ⟨h,by simp⟩⟩) hS ?_
 rw[hd]
 exact h hm _ _ (hf.put hdn _) hp ((Sh.set hni).2 hS)
theorem qb (i:Nat)(V:Value)(ho:ops[i]?=some o)(hd:o.dst=some d)(hw:wants ops l o=some true)(hy:Yv P l [] [] o V)(h:SXB P ro ps n D M0 w0 (yx Q) ops Bs Fs fuel (done.setIfInBounds i true) ((d,V)::l) B R F m r)(hk:okP ops ps done i d n=true:=by kernel_rfl):SXB P ro ps n D M0 w0 (yx Q) ops Bs Fs (fuel+1) done l B R F m r:=by
 intro hm a w hf hp hS
 obtain ⟨hca,hs,hfr,hr,hcl,hni,hdn⟩:=qgL hk
 refine qct (S:=Sh ps Bs Fs) (T:=fun _=>True) (v:=V) ho hca (Region.noSelect_spec hs) (fun c a w h=>h) (fun _ _ _ _ _=>trivial) (fun _ _ h=>(Sh.set hni).1 h) (fun _ _ h=>(Sh.set hni).2 h) fuel done a w (Region.free_spec ho hfr) (by grind) (qdy hcl)
  (.inl ⟨zg hf hw,fun w' _=>hy n D a w' hf ⟨by simp,by simp⟩⟩) hS ?_
 rw[hd]
 exact h hm _ _ (hf.put hdn _) hp ((Sh.set hni).2 hS)
theorem qwv (i:Nat)(ho:ops[i]?=some o)(hd:o.dst=some d)(hw:wants ops l o=some false)(h:SXB P ro ps n D M0 w0 (yx Q) ops Bs Fs fuel (done.setIfInBounds i true) ((d,undef)::l) B R F m r)(hk:okP ops ps done i d n=true:=by kernel_rfl):SXB P ro ps n D M0 w0 (yx Q) ops Bs Fs (fuel+1) done l B R F m r:=by
 intro hm a w hf hp hS
 obtain ⟨hca,hs,hfr,hr,hcl,hni,hdn⟩:=qgL hk
 refine qct (S:=Sh ps Bs Fs) (T:=fun _=>True) (v:=undef) ho hca (Region.noSelect_spec hs) (fun c a w h=>h) (fun _ _ _ _ _=>trivial) (fun _ _ h=>(Sh.set hni).1 h) (fun _ _ h=>(Sh.set hni).2 h) fuel done a w (Region.free_spec ho hfr) (by grind) (qdy hcl)
  (.inr ⟨zg hf hw,rfl⟩) hS ?_
 rw[hd]
 exact h hm _ _ (hf.put hdn _) hp ((Sh.set hni).2 hS)
theorem qAt {c:Bool}{m1 m2:Option ρ}(h1:c=true→SXB P ro ps n D M0 w0 Q ops Bs Fs fuel done l B R F m1 r)(h2:c=false→SXB P ro ps n D M0 w0 Q ops Bs Fs fuel done l B R F m2 r) :
  SXB P ro ps n D M0 w0 Q ops Bs Fs fuel done l B R F (if c then m1 else m2) r:=by
 grind
theorem zR {u v:Value}(hu:look l d=some u)(he:u=v)(h:SXB P ro ps n D M0 w0 Q ops Bs Fs fuel done ((d,v)::l) B R F m r):SXB P ro ps n D M0 w0 Q ops Bs Fs fuel done l B R F m r :=
 fun hm a w hf hp hS=>h hm a w (hf.again hu he) hp hS
theorem qgr (hr:Region.ready .any ops done=[])(h:SXQ n D M0 w0 Q .normal l B R F m r):SXB P ro ps n D M0 w0 Q ops Bs Fs fuel done l B R F m r :=
 fun hm a w hf hp _=>by
  have h1:=h hm a w hf hp
  cases fuel with
  | zero=>exact ⟨hr,h1⟩
  | succ fuel=>exact ⟨fun _=>h1,by simp_all⟩
theorem qgs {done':Array Bool}(i:Nat)(ho:ops[i]?=some o)(hr:Region.ready .any ops done=[i])(hdone:done.setIfInBounds i true=done')(h:SXO P ro n D M0 w0 (Exit.then (fun a w=>Sh ps Bs Fs done' w∧anyK ro P ops Q (Sh ps Bs Fs) fuel done' a w) Q) ops [o] l B R F m r):SXB P ro ps n D M0 w0 Q ops Bs Fs (fuel+1) done l B R F m r:=by
 intro hm a w hf hp hS
 refine ⟨fun h0=>(by simp_all),fun j hj=>?_⟩
 rw[hr] at hj
 simp only[qBD] at hj
 subst hj
 have h1:=h hm a w hf hp
 rw[hdone]
 unfold ke wpListIn at h1
 unfold opK wpOpIn
 simp only[ho]
 split
 ·rename_i hw
  rw[if_pos hw] at h1
  refine ⟨fun _ _=>trivial,?_⟩
  exact Oper.uponIn_mono (fun a w h=>h) (fun c a w h=>h) (fun h=>h) _ h1.2
 ·rename_i hw
  rw[if_neg hw] at h1
  exact ⟨fun _ _=>trivial,h1.2⟩
theorem qc {K:Exit→Act→World→Prop}(hB:Pick B Bs)(hF:∀ φ∈Fs,φ∈F∨(∃ rd∈R,∀ w,Cells rd.v rd.n rd.size rd.cs w→φ w)∨∃ b∈B,∀ w,b.is w→φ w)(h:SXB P ro ps n D M0 w0 Q ops Bs Fs fuel done l B R F m r) :
  SXQ n D M0 w0 (Exit.then (fun a w=>Sh ps Bs Fs done w∧anyK ro P ops Q (Sh ps Bs Fs) fuel done a w) K) .normal l B R F m r :=
 fun hm a w hf hp=>⟨⟨(qdh hp hB hF).1,fun _=>(qdh hp hB hF).2⟩,h hm a w hf hp ⟨(qdh hp hB hF).1,fun _=>(qdh hp hB hF).2⟩⟩
theorem kQ {K:Exit→Act→World→Prop}(p:Nat)(hp:ps.contains p=true)(hd:done.getD p true=true)(hB:Pick B Bs)(h:SXB P ro ps n D M0 w0 Q ops Bs Fs fuel done l B R F m r) :
  SXQ n D M0 w0 (Exit.then (fun a w=>Sh ps Bs Fs done w∧anyK ro P ops Q (Sh ps Bs Fs) fuel done a w) K) .normal l B R F m r:=by
 intro hm a w hf hpp
 have hv:Sh ps Bs Fs done w:=⟨(qdh (Fs:=[]) hpp hB (by simp)).1,fun h=>by
  simp_all⟩
 exact ⟨hv,h hm a w hf hpp hv⟩
theorem kM {d:Option Tmp}{e:TypeId}{size g o:Nat}{cs:List Value}{V:Value}(hx:ev l x=some (.pointer (some ⟨g,o,none⟩)))(hT:TyF P t' agg z size bytes)(hF:F[j]?=some (BlkD.is ⟨g,e,cs⟩))(hl:((cs.drop o).take size).length=size)(hs:agg=false→size=1)(hV:(if agg then .agg ((cs.drop o).take size).toArray else ((cs.drop o).take size).getD 0 undef)=V) :
  Yv P l B F ⟨d,.load t' x,t,pos,af,gd⟩ V:=fun n D a w hf hp =>
 qq (B:=[⟨g,e,cs⟩]) (F:=[]) (i:=0) hx hT rfl hl hs hV n D a w hf ⟨fun b hb=>by rw[qBD] at hb;subst hb;exact hp.2 _ (qBl hF),by simp⟩
theorem qbJ {x:Code}{enc:α→List Value}{e size:Nat}{k:α→Option ρ}{i:Int}(hR:R[j]?=some (Ro enc e size (.slice ao xs.length c) xs))(h:∀ y,idx xs i=some y→∀ g,ao=some ⟨g,0,none⟩→SXC P ro n D M0 w0 Q x l B R F (k y) r) :
  SXC P ro n D M0 w0 Q x l B R F ((idx xs i).bind k) r:=by
 intro hm a w hf hp
 cases hq:idx xs i with
 | none=>simp_all
 | some y =>
  rw[hq] at hm
  have hm':k y=some r:=by grind
  obtain ⟨_,hlt,_⟩:=qw hq
  have hown:=hp.row _ (qBl hR)
  rcases hown.2 with ⟨h5,h6⟩ | ⟨g,cap,cur,h5,_⟩
  ·have h6':xs.length=0:=h6
   omega
  ·have h5':Value.slice ao xs.length c=.slice (some ⟨g,0,none⟩) xs.length cap:=h5
   simp only[Value.slice.injEq] at h5'
   exact h y hq g h5'.1 hm' a w hf hp
theorem ql {enc:α→List Value}{size:Nat}{i:Int}{y:α}{g e:Nat}(henc:EncOk enc size)(hy:idx xs i=some y)(ha:ao=some ⟨g,0,none⟩) :
  ∀ w,Cells (Ro enc e size (.slice ao xs.length c) xs).v (Ro enc e size (.slice ao xs.length c) xs).n (Ro enc e size (.slice ao xs.length c) xs).size (Ro enc e size (.slice ao xs.length c) xs).cs w→yZ g (i.toNat*size) (enc y) w:=by
 intro w h jj u hj
 obtain ⟨⟨ao',cap',hv',_,_,_,hc'⟩,_⟩:=(h:Cells (.slice ao xs.length c) xs.length size (xs.flatMap enc) w)
 have hv2:Value.slice ao xs.length c=.slice ao' xs.length cap':=hv'
 simp only[Value.slice.injEq] at hv2
 obtain ⟨rfl,-,-⟩:=hv2
 obtain ⟨_,_,hget⟩:=qw hy
 obtain ⟨ad',h3,h4⟩:=hc' (i.toNat*size+jj) u (yX henc xs i.toNat y jj u hget hj)
 simp_all
theorem qbu {ix:Operand}{ki:IntKind}{i:Int}{b0 k:Nat}{e:TypeId}{size:Nat}(ht:P.underlying t'=some (.slice e))(hT:TyF P e agg z size bytes)(hx:ev l x=some (.slice (some ⟨b0,0,none⟩) k c))(hi:ev l ix=some (.int ki i))(h0:0≤i)(hlt:i<(k:Int)) :
  Yv P l B F ⟨some d,.indexAddr t' x ix,t,pos,af,gd⟩ (.pointer (some ⟨b0,i.toNat*size,none⟩)):=by
 have:=qxd (B:=B) (F:=F) (d:=some d) (t:=t) (pos:=pos) (af:=af) (gd:=gd) ht hT hx hi h0 hlt
 simp_all
theorem zF {g k:Nat}(ha:ao=some ⟨g,0,none⟩):(Value.slice ao k c).ownBlock=some g:=by rw[ha];rfl
theorem zZ {enc:α→List Value}{e:TypeId}{size g:Nat}{V:Value}{y':α}{k:List α→Option ρ}(henc:EncOk enc size)(hw:wants ops l ⟨none,.store t' x y,t,pos,af,gd⟩=some true)(hx:ev l x=some (.pointer (some ⟨g,i*size,none⟩)))(hy:ev l y=some V)(hT:TyF P t' agg z size bytes)(hR:R[j]?=some (Ro enc e size (.slice ao xs.length c) xs))(hg:(Value.slice ao xs.length c).ownBlock=some g)(hi:i<xs.length)(hV:V.cells.toList=enc y')(h:∀ ys,xs.set i y'=ys→Value.slice ao xs.length c=.slice ao ys.length c→SXO P ro n D M0 w0 Q ops rest l B (Ro enc e size (.slice ao ys.length c) ys::R.eraseIdx j) F (k ys) r) :
  SXO P ro n D M0 w0 Q ops (⟨none,.store t' x y,t,pos,af,gd⟩::rest) l B R F (lett (xs.set i y') k) r:=by
 have hl:(xs.set i y').length=xs.length:=qBA
 have hv:Value.slice ao xs.length c=.slice ao (xs.set i y').length c:=by rw[hl]
 have h1:=h _ rfl hv
 rw[← hv] at h1
 exact qlQ henc hw hx hy hT hR hg hi hV h1
theorem qS {g e:Nat}{cs cs':List Value}(hB:B[i]?=some ⟨g,e,cs⟩)(he:cs=cs')(h:SXO P ro n D M0 w0 Q ops rest l (B.set i ⟨g,e,cs'⟩) R F m r):SXO P ro n D M0 w0 Q ops rest l B R F m r:=by
 subst he
 have:B.set i ⟨g,e,cs⟩=B:=by
  apply qBU
  grind
 simp_all
theorem qmo {e:TypeId}(ht:P.underlying t=some (.slice e))(ao:Option Addr)(k c:Nat)(w:World):(Op.equal t (.slice ao k c) (.slice none 0 0)).run P w=.ok ao.isNone w:=by
 have:∀ d,(Op.equalIn (d+1) t (.slice ao k c) (.slice none 0 0)).run P w=.ok ao.isNone w:=fun d=>by
  unfold Op.equalIn
  rw[Sem.run_bind,run_underlying ht]
  cases ao <;> rfl
 exact this 9999
theorem quc {yt e:TypeId}{k:Nat}(hw:wants ops l ⟨some d,.binOp .eql xt x y yt,t,pos,af,gd⟩=some true)(ht:P.underlying xt=some (.slice e))(hx:ev l x=some (.slice ao k c))(hy:ev l y=some (.slice none 0 0))(hd:Nat.blt d n=true)(h:SXO P ro n D M0 w0 Q ops rest ((d,.bool ao.isNone)::l) B R F m r):SXO P ro n D M0 w0 Q ops (⟨some d,.binOp .eql xt x y yt,t,pos,af,gd⟩::rest) l B R F m r :=
 qK (.bool ao.isNone) hw rfl hd (fun a w hf _=>by
  have h1:=hf.ev hx
  have h2:=hf.ev hy
  have he:=qmo ht ao k c w
  generalize a.eval=e at h1 h2 ⊢
  generalize hq:Op.equal xt (.slice ao k c) (.slice none 0 0)=q at he
  simp[execOp,h1,h2,eqGuard,binOp,hq,he,go_sem]) h
theorem qp0 {x:Code}{enc:α→List Value}{size:Nat}(j:Nat)(henc:EncOk enc size)(hs:size≠0)(hF:F[j]?=some (Sl enc size (.slice ao xs.length c) xs))(ha:ao.isNone=true)(h:xs=[]→SXC P ro n D M0 w0 Q x l B R F m r):SXC P ro n D M0 w0 Q x l B R F m r:=by
 intro hm a w hf hp
 refine h ?_ hm a w hf hp
 have hnec:=hp.per _ (qBl hF)
 obtain ⟨⟨ao',cap,hv,_,_,_,hc⟩,hlen⟩:=(hnec.here:Cells (.slice ao xs.length c) xs.length size (xs.flatMap enc) w)
 cases xs with
 | nil=>rfl
 | cons y ys =>
  have hne:0<((y::ys).flatMap enc).length:=by
   have:=henc.len y
   grind
  obtain ⟨ad,h1,_⟩:=hc 0 _ (List.getElem?_eq_getElem hne)
  simp_all
theorem qro {ix:Operand}{s:ByteArray}{ki:IntKind}{i:Int}{k:Int→Option ρ}{xs:List Int}(hw:wants ops l ⟨some d,.index xt x ix,t,pos,af,gd⟩=some true)(ht:P.underlying xt=some .string)(hx:ev l x=some (.string s))(hi:ev l ix=some (.int ki i))(hs:s.data.toList.map (fun b=>(b.toNat:Int))=xs)(hd:Nat.blt d n=true)(h:∀ y,idx xs i=some y→SXO P ro n D M0 w0 Q ops rest ((d,.int .u8 y)::l) B R F (k y) r) :
  SXO P ro n D M0 w0 Q ops (⟨some d,.index xt x ix,t,pos,af,gd⟩::rest) l B R F ((idx xs i).bind k) r:=by
 refine kS hw fun hm a w hf hp=>?_
 cases hq:idx xs i with
 | none=>simp_all
 | some y =>
  rw[hq] at hm
  have hm':k y=some r:=by grind
  obtain ⟨h0,hlt,hy⟩:=qw hq
  obtain ⟨I,rfl⟩:=qBm h0
  have hy':xs[I]?=some y:=hy
  rw[← hs,List.getElem?_map] at hy'
  cases hb:s.data.toList[I]? with
  | none=>simp_all
  | some b =>
   rw[hb] at hy'
   simp only[Option.map_some,qBs] at hy'
   have hb':s[I]?=some b:=by
    have h1:=(qBC.1 hb)
    obtain ⟨h2,h3⟩:=h1
    have h4:I<s.size:=by rw[Array.length_toList] at h2;exact h2
    rw[getElem?_pos s I h4]
    exact congrArg some h3
   refine ⟨.int .u8 y,w,?_,h y hq hm' _ _ (hf.put hd _) hp⟩
   have h1:=hf.ev hx
   have h2:=hf.ev hi
   generalize a.eval=ε at h1 h2 ⊢
   simp[execOp,h1,h2,Instr.index,asIntOf,run_underlying ht,hb',hy']
def imin (a b:Int):Int:=if b<a then b else a
def imax (a b:Int):Int:=if a<b then b else a
theorem qrJ {k:IntKind}{a b:Int}{d:Option Tmp}(hx:ev l x=some (.int k a))(hy:ev l y=some (.int k b)):Yv P l B F ⟨d,.call ⟨.builtin .min,#[x,y],tys⟩,t,pos,af,gd⟩ (.int k (imin a b)):=fun n D ac w hf _=>by
 have h1:=hf.ev hx
 have h2:=hf.ev hy
 generalize ac.eval=e at h1 h2 ⊢
 simp[h1,h2,Builtin.min_,Builtin.min2,imin,go_sem]
theorem qAE {k:IntKind}{a b:Int}{d:Option Tmp}(hx:ev l x=some (.int k a))(hy:ev l y=some (.int k b)):Yv P l B F ⟨d,.call ⟨.builtin .max,#[x,y],tys⟩,t,pos,af,gd⟩ (.int k (imax a b)):=fun n D ac w hf _=>by
 have h1:=hf.ev hx
 have h2:=hf.ev hy
 generalize ac.eval=e at h1 h2 ⊢
 simp[h1,h2,Builtin.max_,Builtin.max2,imax,go_sem]
theorem qdl {parts:Array (Nat×Operand)}{vs:List (Nat×Value)}{places:List (Nat×Nat)}{cells:List Value}{d:Option Tmp}(hS:StF P t' places z)(hp:evParts l parts.toList=some vs)(hfill:Instr.fill (places.toArray[·]?) z.cells vs=some cells.toArray):Yv P l B F ⟨d,.build t' parts,t,pos,af,gd⟩ (.agg cells.toArray):=fun n D a w hf _=>by
 have hpe:=hf.evParts hp
 have hpa:(parts.map fun p=>(p.1,a.eval p.2))=vs.toArray:=by grind
 obtain ⟨fs,hu,hpl,hin⟩:=hS.out
 obtain ⟨i,hi,hz⟩:=hS.zero
 have hm:=qll (P:=P) (w:=w) fs.toList hin
 rw[hpl] at hm
 have hm':(fs.mapM (fun f=>Functor.map (Prod.mk f.offset) (Go.sizeOf f.type)):Sem (Array (Nat×Nat))).run P w=.ok places.toArray w:=by
  rw[Array.mapM_eq_mapM_toList]
  simp_all
 generalize a.eval=ε at hpa ⊢
 simp only[execOp,hpa,Instr.build]
 have hfill':Instr.fill (fun x=>places.toArray[x]?) z.cells vs=some cells.toArray:=hfill
 generalize hq:(fs.mapM (fun f=>Functor.map (Prod.mk f.offset) (Go.sizeOf f.type)):Sem (Array (Nat×Nat)))=q at hm'
 simp[zeroValue,typeInfo,hi,hz,run_underlying hu,hq,hm']
 simp_all
theorem qyB {k:IntKind}{a b:Int}(hw:wants ops l ⟨some d,.call ⟨.builtin .min,#[x,y],tys⟩,t,pos,af,gd⟩=some true)(hx:ev l x=some (.int k a))(hy:ev l y=some (.int k b))(hd:Nat.blt d n=true)(h:SXO P ro n D M0 w0 Q ops rest ((d,.int k (imin a b))::l) B R F m r):SXO P ro n D M0 w0 Q ops (⟨some d,.call ⟨.builtin .min,#[x,y],tys⟩,t,pos,af,gd⟩::rest) l B R F m r :=
 qK _ hw rfl hd (fun a w hf _=>qrJ (B:=[]) (F:=[]) hx hy n D a w hf ⟨by simp,by simp⟩) h
theorem qyA {k:IntKind}{a b:Int}(hw:wants ops l ⟨some d,.call ⟨.builtin .max,#[x,y],tys⟩,t,pos,af,gd⟩=some true)(hx:ev l x=some (.int k a))(hy:ev l y=some (.int k b))(hd:Nat.blt d n=true)(h:SXO P ro n D M0 w0 Q ops rest ((d,.int k (imax a b))::l) B R F m r):SXO P ro n D M0 w0 Q ops (⟨some d,.call ⟨.builtin .max,#[x,y],tys⟩,t,pos,af,gd⟩::rest) l B R F m r :=
 qK _ hw rfl hd (fun a w hf _=>qAE (B:=[]) (F:=[]) hx hy n D a w hf ⟨by simp,by simp⟩) h
theorem qd0 {m':Option ρ}(h:m=m')(hs:SXO P ro n D M0 w0 Q ops rest l B R F m' r):SXO P ro n D M0 w0 Q ops rest l B R F m r:=h▸hs
theorem zJ {di dj:Array Bool}(i j:Nat){oj:Oper}(hoi:ops[i]?=some oi)(hoj:ops[j]?=some oj)(hr:Region.ready .any ops done=[i,j])(hdi:done.setIfInBounds i true=di)(hdj:done.setIfInBounds j true=dj)(h1:SXO P ro n D M0 w0 (Exit.then (fun a w=>Sh ps Bs Fs di w∧anyK ro P ops Q (Sh ps Bs Fs) fuel di a w) Q) ops [oi] l B R F m r)(h2:SXO P ro n D M0 w0 (Exit.then (fun a w=>Sh ps Bs Fs dj w∧anyK ro P ops Q (Sh ps Bs Fs) fuel dj a w) Q) ops [oj] l B R F m r):SXB P ro ps n D M0 w0 Q ops Bs Fs (fuel+1) done l B R F m r:=by
 intro hm a w hf hp hS
 refine ⟨fun h0=>(by simp_all),fun q hq=>?_⟩
 have key:∀ (q:Nat) (o:Oper) (d':Array Bool),ops[q]?=some o→done.setIfInBounds q true=d' →
   SXO P ro n D M0 w0 (Exit.then (fun a w=>Sh ps Bs Fs d' w∧anyK ro P ops Q (Sh ps Bs Fs) fuel d' a w) Q) ops [o] l B R F m r →
   opK ro P ops Q q (fun a' w'=>Sh ps Bs Fs (done.setIfInBounds q true) w'∧anyK ro P ops Q (Sh ps Bs Fs) fuel (done.setIfInBounds q true) a' w') a w:=by
  intro q o d' ho hd h
  have h1:=h hm a w hf hp
  rw[hd]
  unfold ke wpListIn at h1
  unfold opK wpOpIn
  simp only[ho]
  split
  ·rename_i hw
   rw[if_pos hw] at h1
   refine ⟨fun _ _=>trivial,?_⟩
   exact Oper.uponIn_mono (fun a w h=>h) (fun c a w h=>h) (fun h=>h) _ h1.2
  ·rename_i hw
   rw[if_neg hw] at h1
   exact ⟨fun _ _=>trivial,h1.2⟩
 rw[hr] at hq
 rcases qBp.1 hq with rfl | hq
 ·exact key _ _ _ hoi hdi h1
 ·rcases qBp.1 hq with rfl | hq
  ·exact key _ _ _ hoj hdj h2
  simp_all
theorem qm3 {di dj dk:Array Bool}(i j k:Nat){oj ok:Oper}(hoi:ops[i]?=some oi)(hoj:ops[j]?=some oj)(hok:ops[k]?=some ok)(hr:Region.ready .any ops done=[i,j,k])(hdi:done.setIfInBounds i true=di)(hdj:done.setIfInBounds j true=dj)(hdk:done.setIfInBounds k true=dk)(h1:SXO P ro n D M0 w0 (Exit.then (fun a w=>Sh ps Bs Fs di w∧anyK ro P ops Q (Sh ps Bs Fs) fuel di a w) Q) ops [oi] l B R F m r)(h2:SXO P ro n D M0 w0 (Exit.then (fun a w=>Sh ps Bs Fs dj w∧anyK ro P ops Q (Sh ps Bs Fs) fuel dj a w) Q) ops [oj] l B R F m r)(h3:SXO P ro n D M0 w0 (Exit.then (fun a w=>Sh ps Bs Fs dk w∧anyK ro P ops Q (Sh ps Bs Fs) fuel dk a w) Q) ops [ok] l B R F m r):SXB P ro ps n D M0 w0 Q ops Bs Fs (fuel+1) done l B R F m r:=by
 intro hm a w hf hp hS
 refine ⟨fun h0=>(by simp_all),fun q hq=>?_⟩
 have key:∀ (q:Nat) (o:Oper) (d':Array Bool),ops[q]?=some o→done.setIfInBounds q true=d' →
   SXO P ro n D M0 w0 (Exit.then (fun a w=>Sh ps Bs Fs d' w∧anyK ro P ops Q (Sh ps Bs Fs) fuel d' a w) Q) ops [o] l B R F m r →
   opK ro P ops Q q (fun a' w'=>Sh ps Bs Fs (done.setIfInBounds q true) w'∧anyK ro P ops Q (Sh ps Bs Fs) fuel (done.setIfInBounds q true) a' w') a w:=by
  intro q o d' ho hd h
  have h1:=h hm a w hf hp
  rw[hd]
  unfold ke wpListIn at h1
  unfold opK wpOpIn
  simp only[ho]
  split
  ·rename_i hw
   rw[if_pos hw] at h1
   refine ⟨fun _ _=>trivial,?_⟩
   exact Oper.uponIn_mono (fun a w h=>h) (fun c a w h=>h) (fun h=>h) _ h1.2
  ·rename_i hw
   rw[if_neg hw] at h1
   exact ⟨fun _ _=>trivial,h1.2⟩
 rw[hr] at hq
 rcases qBp.1 hq with rfl | hq
 ·exact key _ _ _ hoi hdi h1
 ·rcases qBp.1 hq with rfl | hq
  ·exact key _ _ _ hoj hdj h2
  ·rcases qBp.1 hq with rfl | hq
   ·exact key _ _ _ hok hdk h3
   simp_all
def cutv (ao:Option Addr)(c size:Nat)(L H:Int):Value:=.slice (if c=L.toNat then ao else ao.map (·.add (L.toNat*size))) (H.toNat-L.toNat) (c-L.toNat)
theorem qdi {ys:List α}{li hj:Int}(h:sub xs li hj=some ys):0≤li∧li≤hj∧hj≤xs.length∧ys=(xs.take hj.toNat).drop li.toNat:=by
 grind [sub]
theorem qpX {x:Code}{enc:α→List Value}{size:Nat}{k:List α→Option ρ}{li hj:Int}(j:Nat)(henc:EncOk enc size)(hF:F[j]?=some (Sl enc size (.slice ao xs.length c) xs))(h:∀ ys,sub xs li hj=some ys→∀ a' c',cutv ao c size li hj=.slice a' ys.length c'→xs.length≤c→SXC P ro n D M0 w0 Q x l B R (Sl enc size (.slice a' ys.length c') ys::F) (k ys) r) :
  SXC P ro n D M0 w0 Q x l B R F ((sub xs li hj).bind k) r:=by
 intro hm a w hf hp
 cases hq:sub xs li hj with
 | none=>simp_all
 | some ys =>
  rw[hq] at hm
  have hm':k ys=some r:=by grind
  obtain ⟨b1,b2,b3,rfl⟩:=qdi hq
  obtain ⟨L,rfl⟩:=qBm b1
  obtain ⟨H,rfl⟩:=qBm (qDF b1 b2)
  have b2':L≤H:=by omega
  have b3':H≤xs.length:=by omega
  have hnec:=hp.per _ (qBl hF)
  have hcap:xs.length≤c:=by
   obtain ⟨⟨a1,c1,hv1,hn1,_⟩,_⟩:=(hnec.here:Cells (.slice ao xs.length c) xs.length size (xs.flatMap enc) w)
   simp_all
  have hl:((xs.take H).drop L).length=H-L:=by simp_all
  refine h _ hq (if c=L then ao else ao.map (·.add (L*size))) (c-L) (by grind [cutv]) hcap hm' _ _ hf (hp.addFact ?_)
  intro w' hk'
  obtain ⟨a2,c2,hv2,hc2⟩:=Cells.cut (hnec w' hk':Cells (.slice ao xs.length c) xs.length size (xs.flatMap enc) w') b2' b3'
  simp only[Value.slice.injEq] at hv2
  obtain ⟨rfl,-,rfl⟩:=hv2
  show Cells (.slice _ ((xs.take H).drop L).length _) ((xs.take H).drop L).length size (((xs.take H).drop L).flatMap enc) w'
  rw[hl,qiY henc,qdc henc]
  omega
theorem qrj {c:Code}{enc:α→List Value}{v:Value}{e size:Nat}(i:Nat)(hR:R[i]?=some (Ro enc e size v xs))(h:SXC P ro n D M0 w0 Q c l B (R.eraseIdx i) (Sl enc size v xs::F) m r):SXC P ro n D M0 w0 Q c l B R F m r :=
 fun hm a w hf hp=>h hm a w hf (hp.freeze hR)
theorem qlR {ex:Exit}{enc:α→List Value}{v:Value}{e size:Nat}(i:Nat)(hR:R[i]?=some (Ro enc e size v xs))(h:SXQ n D M0 w0 Q ex l B (R.eraseIdx i) (Sl enc size v xs::F) m r):SXQ n D M0 w0 Q ex l B R F m r :=
 fun hm a w hf hp=>h hm a w hf (hp.freeze hR)
theorem qcw {ys:List α}{lo hi:Option Operand}{li hj:Int}{V:Value}{e:TypeId}{size:Nat}(ht:P.underlying t'=some (.slice e))(hT:TyF P e agg z size bytes)(hx:ev l x=some (.slice ao xs.length c))(hlo:evOpt l lo 0=some li)(hhi:evOpt l hi (xs.length:Int)=some hj)(hs:sub xs li hj=some ys)(hcap:xs.length≤c)(hv:cutv ao c size li hj=V) :
  Yv P l B F ⟨some d,.slice t' x lo hi none,t,pos,af,gd⟩ V:=by
 intro n D a w hf _
 obtain ⟨b1,b2,b3,_⟩:=qdi hs
 obtain ⟨L,rfl⟩:=qBm b1
 obtain ⟨H,rfl⟩:=qBm (qDF b1 b2)
 have b2':L≤H:=by omega
 have b3':H≤xs.length:=by omega
 subst hv
 have h1:=hf.ev hx
 have e1:=qdz hf hlo
 have e2:=qdz hf hhi
 have hb1:(H:Int)≤(c:Int):=by omega
 have hb0:(0:Int)≤(H:Int):=by omega
 have hb2:(L:Int)≤(H:Int):=by omega
 have hb3:(0:Int)≤(L:Int):=by omega
 have hn1:H≤c:=by omega
 generalize hε:a.eval=ε at h1 e1 e2 ⊢
 rcases e1 with ⟨k1,e1⟩ | ⟨rfl,e1⟩ <;> rcases e2 with ⟨k2,e2⟩ | ⟨rfl,e2⟩
 ·simp[execOp,h1,e1,e2,Instr.sliceAt,Instr.slice,Instr.sliceBounds,Instr.sliceBound,asIntOf,run_underlying ht,hT.run_size,hb0,hb3,hn1,b2',cutv]
 ·have:H=xs.length:=by omega
  subst this
  simp[execOp,h1,e1,Instr.sliceAt,Instr.slice,Instr.sliceBounds,Instr.sliceBound,asIntOf,run_underlying ht,hT.run_size,hb3,b2',cutv]
 ·have:L=0:=by omega
  subst this
  simp[execOp,h1,e2,Instr.sliceAt,Instr.slice,Instr.sliceBounds,Instr.sliceBound,asIntOf,run_underlying ht,hT.run_size,hb0,hn1,cutv]
 ·have:H=xs.length:=by omega
  subst this
  have:L=0:=by omega
  subst this
  simp[execOp,h1,Instr.sliceAt,Instr.slice,Instr.sliceBounds,run_underlying ht,hT.run_size,cutv]
def vZ (ks:List Nat)(Q:Exit→Act→World→Prop):Exit→Act→World→Prop
 | .panic c,a,w=>∀ t':Array Value,t'.size=a.tmps.size→(∀ k∈ks,t'[k]?=a.tmps[k]?)→Q (.panic c) { a with tmps:=t' } w
 | e,a,w=>Q e a w
theorem qf1 {ks:List Nat}{c:List PanicEntry}{v:Value}(hd:ks.contains d=false)(h:vZ ks Q (.panic c) (a.put (some d) v) w):vZ ks Q (.panic c) a w :=
 fun t' hs hk=>h t' (by grind [Act.put]) fun k hkm=>by
  rw[hk k hkm]
  have hne:d≠k:=by grind
  grind [Act.put]
variable {ks:List Nat}
theorem qj0 {id:Nat}{os:List Oper}(hm:P.follows .mixedOrders=true)(ks:List Nat)(ps:List Nat)(Bs:List BlkD)(Fs:List (World→Prop))(hB:Pick B Bs)(hF:∀ φ∈Fs,φ∈F∨(∃ rd∈R,∀ w,Cells rd.v rd.n rd.size rd.cs w→φ w)∨∃ b∈B,∀ w,b.is w→φ w)(k:Nat)(hk:os.length=k)(h:SXB P ro ps n D M0 w0 (vZ ks Q) os.toArray Bs Fs k (Array.replicate k false) l B R F m r):SXC P ro n D M0 w0 Q (.region id os.toArray true) l B R F m r:=by
 intro hmm a w hf hp
 refine qi5 (Q:=vZ ks Q) (wpIn_region_any hm ?_) fun e a w hq=>?_
 ·have hp':Hp M0 w0 { w with drawn:=w.drawn+1 } B R F:=hp.step (Keeps.of_heap rfl rfl rfl rfl)
  have:=h hmm a _ hf hp' ⟨(qdh hp' hB hF).1,fun _=>(qdh hp' hB hF).2⟩
  grind [qin]
 ·cases e <;> first | exact hq | exact hq a.tmps rfl fun _ _=>rfl
theorem qdC (i:Nat)(V:Value)(ho:ops[i]?=some o)(hd:o.dst=some d)(hw:wants ops l o=some true)(hy:Yv P l Bs [] o V)(hkd:ks.contains d=false)(h:SXB P ro ps n D M0 w0 (vZ ks Q) ops Bs Fs fuel (done.setIfInBounds i true) ((d,V)::l) B R F m r)(hk:okP ops ps done i d n=true:=by kernel_rfl):SXB P ro ps n D M0 w0 (vZ ks Q) ops Bs Fs (fuel+1) done l B R F m r:=by
 intro hm a w hf hp hS
 obtain ⟨hca,hs,hfr,hr,hcl,hni,hdn⟩:=qgL hk
 refine qct (S:=Sh ps Bs Fs) (T:=fun w=>∀ b∈Bs,b.is w) (v:=V) ho hca (Region.noSelect_spec hs) (fun c a w h=>by grind [qf1]) (fun _ _ _ _ h=>h.1) (fun _ _ h=>(Sh.set hni).1 h) (fun _ _ h=>(Sh.set hni).2 h) fuel done a w (Region.free_spec ho hfr) (by grind) (qdy hcl)
  (.inl ⟨zg hf hw,fun w' h=>hy n D a w' hf ⟨h,by simp⟩⟩) hS ?_
 rw[hd]
 exact h hm _ _ (hf.put hdn _) hp ((Sh.set hni).2 hS)
theorem zY (i:Nat)(V:Value)(ho:ops[i]?=some o)(hd:o.dst=some d)(hw:wants ops l o=some true)(hy:Yv P l [] [] o V)(hkd:ks.contains d=false)(h:SXB P ro ps n D M0 w0 (vZ ks Q) ops Bs Fs fuel (done.setIfInBounds i true) ((d,V)::l) B R F m r)(hk:okP ops ps done i d n=true:=by kernel_rfl):SXB P ro ps n D M0 w0 (vZ ks Q) ops Bs Fs (fuel+1) done l B R F m r:=by
 intro hm a w hf hp hS
 obtain ⟨hca,hs,hfr,hr,hcl,hni,hdn⟩:=qgL hk
 refine qct (S:=Sh ps Bs Fs) (T:=fun _=>True) (v:=V) ho hca (Region.noSelect_spec hs) (fun c a w h=>by grind [qf1]) (fun _ _ _ _ _=>trivial) (fun _ _ h=>(Sh.set hni).1 h) (fun _ _ h=>(Sh.set hni).2 h) fuel done a w (Region.free_spec ho hfr) (by grind) (qdy hcl)
  (.inl ⟨zg hf hw,fun w' _=>hy n D a w' hf ⟨by simp,by simp⟩⟩) hS ?_
 rw[hd]
 exact h hm _ _ (hf.put hdn _) hp ((Sh.set hni).2 hS)
theorem v7 (i:Nat)(ho:ops[i]?=some o)(hd:o.dst=some d)(hw:wants ops l o=some false)(hkd:ks.contains d=false)(h:SXB P ro ps n D M0 w0 (vZ ks Q) ops Bs Fs fuel (done.setIfInBounds i true) ((d,undef)::l) B R F m r)(hk:okP ops ps done i d n=true:=by kernel_rfl):SXB P ro ps n D M0 w0 (vZ ks Q) ops Bs Fs (fuel+1) done l B R F m r:=by
 intro hm a w hf hp hS
 obtain ⟨hca,hs,hfr,hr,hcl,hni,hdn⟩:=qgL hk
 refine qct (S:=Sh ps Bs Fs) (T:=fun _=>True) (v:=undef) ho hca (Region.noSelect_spec hs) (fun c a w h=>by grind [qf1]) (fun _ _ _ _ _=>trivial) (fun _ _ h=>(Sh.set hni).1 h) (fun _ _ h=>(Sh.set hni).2 h) fuel done a w (Region.free_spec ho hfr) (by grind) (qdy hcl)
  (.inr ⟨zg hf hw,rfl⟩) hS ?_
 rw[hd]
 exact h hm _ _ (hf.put hdn _) hp ((Sh.set hni).2 hS)
theorem qrw {e:Exit}(h:SXQ n D M0 w0 Q e l B R F m r)(he:∀ c,e≠.panic c):SXQ n D M0 w0 (vZ ks Q) e l B R F m r:=by
 intro hm a w hf hp
 have:=h hm a w hf hp
 cases e <;> first | exact this | simp_all
theorem qqW:∀ p∈([]:Env),ks.contains p.1=true∧look l p.1=some p.2:=by simp
theorem qhC {k:Nat}{v:Value}{q:Env}(hk:ks.contains k=true)(h:look l k=some v)(hr:∀ p∈q,ks.contains p.1=true∧look l p.1=some p.2):∀ p∈((k,v)::q),ks.contains p.1=true∧look l p.1=some p.2:=by
 grind
theorem qoq {l':Env}(hl:∀ p∈l',ks.contains p.1=true∧look l p.1=some p.2)(h:SXQ n D M0 w0 Q (.panic ch) l' B R F m r):SXQ n D M0 w0 (vZ ks Q) (.panic ch) l B R F m r:=by
 intro hm a w hf hp t' hs hk
 refine h hm { a with tmps:=t' } w ⟨hf.defers,by show t'.size=n;rw[hs];exact hf.size,fun i v hv=>?_⟩ hp
 have key:∀ (q:Env),(∀ p∈q,ks.contains p.1=true∧look l p.1=some p.2)→look q i=some v→ks.contains i=true∧look l i=some v:=by
  intro q
  induction q with
  | nil=>grind [look]
  | cons p q ih =>
   grind [qab]
 obtain ⟨h1,h2⟩:=key l' hl hv
 show t'[i]?=some v
 rw[hk i (by grind)]
 exact hf.val i v h2
def qmr (P:Program)(f:FuncId)(args:Array Value):Prop :=
 ∀ w,CallsD P f args .returning w fun e u' w'=>e=.returned (.tuple #[])∧u'=.returning∧w'=w
def qms (P:Program)(f:FuncId)(args:Array Value)(T:TypeId)(v:Value)(B0 B1:List BlkD):Prop :=
 ∀ w,Hp (muts B0 []) w w B0 [] []→CallsD P f args (.panicking [{ v:=.iface T v,recovered:=false }]) w fun e u' w' =>
  e=.returned (.tuple #[])∧u'=.panicking [{ v:=.iface T v,recovered:=true }]∧Hp (muts B0 []) w w' B1 [] []
abbrev clo (f:FuncId) (first cap:Array Value):Deferred:={ target:=.fn (.func f) cap,args:=first }
theorem qub (hx:ev l x=some (.func (.func f) first cap))(hd:dst=none)(h:SXO P none n (clo f first cap::D) M0 w0 Q ops rest l B R F m r):SXO P none n D M0 w0 Q ops (⟨dst,.defer ⟨.value x,#[],tys⟩,t,pos,af,none⟩::rest) l B R F m r:=by
 subst hd
 intro hm a w hf hp
 have h1:(execOp a.eval ⟨none,.defer ⟨.value x,#[],tys⟩,t,pos,af,none⟩).run P w=.ok (.defer (clo f first cap)) w:=by
  have h1:=hf.ev hx
  generalize a.eval=ε at h1 ⊢
  simp[execOp,resolve,h1,Deferred.ofValue]
 unfold ke wpListIn
 rw[if_pos (by rfl)]
 refine ⟨fun _ _=>trivial,?_⟩
 show Oper.uponIn _ _ _ _ _ _ _ ((execOp a.eval ⟨none,.defer ⟨.value x,#[],tys⟩,t,pos,af,none⟩).run P w)
 rw[h1,Oper.uponIn_defer]
 refine h hm _ w ⟨?_,hf.size,fun i v hv=>hf.val i v hv⟩ hp
 show clo f first cap::a.defers=_
 rw[hf.defers]
theorem qvZ {c:Code}{γ:Type}{V:γ→Value}{B1:γ→List BlkD}{R1:γ→List RowD}(hfn:P.funcs[f]?=some fn)(hb:fn.body=some c)(hn:fn.ntmps=N)(hvl:Nat.ble vs.length N=true)(hm:m=some r)(h:∀ w,SXC P none N [] (muts B0 R0) w (bodyPostD P fn fun e w'=>∃ g:γ,e=.returned (V g)∧Hp (muts B0 R0) w w' (B1 g) (R1 g) []) c (vs.zipIdx.map fun p=>(p.2,p.1)) B0 R0 Φ m r):PureM P f vs B0 R0 Φ γ V B1 R1:=by
 intro w hp
 refine calls_of_wp_defers hfn hb (qhl.1 (h w hm _ w ?_ hp))
 have hvl':vs.length≤N:=by simp_all
 refine ⟨rfl,by simp_all,fun i v hv=>?_⟩
 have key:∀ (vs:List Value) (k i:Nat) (v:Value),look ((vs.zipIdx k).map fun p=>(p.2,p.1)) i=some v→k≤i∧vs[i-k]?=some v:=by
  intro vs
  induction vs with
  | nil=>intro k i v hv;simp[look] at hv
  | cons u vs ih =>
   intro k i v hv
   simp only[qCA,qB2] at hv
   rw[qab] at hv
   split at hv
   ·simp_all
   grind
 grind
theorem qrx {Rp:Ending→World→Prop}{e:Exit}(he:e=.ret∨e=.normal)(hE:Enters P f)(ha:first++cap=args)(hi:qmr P f args)(h:SXQ n [] M0 w0 (bodyPost P fn Rp) .ret l B R F m r):SXQ n [clo f first cap] M0 w0 (bodyPostD P fn Rp) e l B R F m r:=by
 intro hm a w hf hp
 have h2:Leaves P fn a.tmps Rp [clo f first cap] .returning w:=by
  refine leaves_cons (f:=f) (args:=args) (by simp) ?_ ((hi w).mono ?_)
  ·subst ha;exact hE _ w
  ·rintro e u' w' ⟨rfl,rfl,rfl⟩
   exact (h hm { tmps:=a.tmps,defers:=[] } w' ⟨rfl,hf.size,hf.val⟩ hp).2
 rcases he with rfl | rfl
 ·show Leaves P fn a.tmps Rp a.defers .returning w
  rw[hf.defers];omega
 ·show Leaves P fn a.tmps Rp a.defers .returning w
  rw[hf.defers];omega
theorem qfo {Rp:Ending→World→Prop}{v:Value}{B1:List BlkD}(hE:Enters P f)(ha:first++cap=args)(hB:Takes B B0 BS)(hi:qms P f args T v B0 B1)(h:SXQ n [] M0 w0 (bodyPost P fn Rp) .ret l (B1++BS) R F m r):SXQ n [clo f first cap] M0 w0 (bodyPostD P fn Rp) (.panic [{ v:=.iface T v,recovered:=false }]) l B R F m r:=by
 intro hm a w hf hp
 show Leaves P fn a.tmps Rp a.defers (.panicking [{ v:=.iface T v,recovered:=false }]) w
 rw[hf.defers]
 have hp':=hp.perm hB.perm (qBM R)
 have hst:Hp (muts B0 []) w w B0 [] []:=by
  have:=Hp.startM (R0:=[]) (RS:=R) (Φ:=[]) (by simpa using hp') (by simp)
  omega
 refine leaves_cons (f:=f) (args:=args) (by simp) ?_ ((hi w hst).mono ?_)
 ·subst ha;exact hE _ w
 ·rintro e u' w' ⟨rfl,rfl,h3⟩
  have h4:=Hp.callM (R0:=[]) (RS:=R) (by simpa using hp') h3
  exact (h hm { tmps:=a.tmps,defers:=[] } w' ⟨rfl,hf.size,hf.val⟩ (by grind)).2
theorem que {v:Value}(hw:wants ops l ⟨some d,.makeInterface T x,t,pos,af,gd⟩=some true)(hx:ev l x=some v)(hT:∀ w,(Instr.makeInterface T v).run P w=.ok (.iface T v) w)(hd:Nat.blt d n=true)(h:SXO P ro n D M0 w0 Q ops rest ((d,.iface T v)::l) B R F m r):SXO P ro n D M0 w0 Q ops (⟨some d,.makeInterface T x,t,pos,af,gd⟩::rest) l B R F m r :=
 qK _ hw rfl hd (fun a w hf _=>by
  have h1:=hf.ev hx
  have h2:=hT w
  generalize a.eval=ε at h1 ⊢
  generalize hq:Instr.makeInterface T v=q at h2
  simp[execOp,h1,hq,h2]) h
theorem qoi {v:Value}(hw:wants ops l ⟨some d,.typeAssert x xt T true,t,pos,af,gd⟩=some true)(hx:ev l x=some (.iface T v))(hT:∀ w,(Instr.typeAssert (.iface T v) xt T true).run P w=.ok (.tuple #[v,.bool true]) w)(hd:Nat.blt d n=true)(h:SXO P ro n D M0 w0 Q ops rest ((d,.tuple #[v,.bool true])::l) B R F m r):SXO P ro n D M0 w0 Q ops (⟨some d,.typeAssert x xt T true,t,pos,af,gd⟩::rest) l B R F m r :=
 qK _ hw rfl hd (fun a w hf _=>by
  have h1:=hf.ev hx
  have h2:=hT w
  generalize a.eval=ε at h1 ⊢
  generalize hq:Instr.typeAssert (.iface T v) xt T true=q at h2
  simp[execOp,h1,hq,h2]) h
theorem qp3 {yt:TypeId}{v:Value}(hw:wants ops l ⟨some d,.binOp .eql xt x y yt,t,pos,af,gd⟩=some true)(hx:ev l x=some (.iface T v))(hy:ev l y=some .nilIface)(hE:∀ w,(do eqGuard .eql xt x y (.iface T v) .nilIface;binOp .eql xt (.iface T v) .nilIface:Sem Value).run P w=.ok (.bool false) w)(hd:Nat.blt d n=true)(h:SXO P ro n D M0 w0 Q ops rest ((d,.bool false)::l) B R F m r):SXO P ro n D M0 w0 Q ops (⟨some d,.binOp .eql xt x y yt,t,pos,af,gd⟩::rest) l B R F m r :=
 qK _ hw rfl hd (fun a w hf _=>by
  have h1:=hf.ev hx
  have h3:=hf.ev hy
  have h2:=hE w
  generalize a.eval=ε at h1 h3 ⊢
  generalize hq:(do eqGuard .eql xt x y (.iface T v) .nilIface;binOp .eql xt (.iface T v) .nilIface:Sem Value)=q at h2
  simp only[execOp,h1,h3]
  simp_all) h
end SX
namespace SX
open Go Go.ChangeShapes Go.WideShapes Go.ChangeAt Go.RowKit
set_option linter.unusedSectionVars false
variable [DM]
variable {H:Type}{enc:TypeId×Value→H}{P:Program}
theorem qh3 (hl:laidOutB P=true){W W':World}(hb:Below W.heap.size W W'){sp:Nat→Bool}:∀ {ts:List TypeId} {vs:List Value} {ds:List (DataW H)} {ps:List MemPlace},
  (ts.all fun t=>P.readableRec t && Nat.blt t P.types.size)=true→DataW.TrodAll enc P W 0 (fun _=>true) true ts vs ds ps→(∀ x∈ps,x.block<W.heap.size)→(∀ x∈ps,sp x.block=true) →
  DataW.TrodAll enc P W' 0 sp true ts vs ds ps
 | [],vs,ds,ps,_,h,_,_=>by
  obtain ⟨rfl,rfl,rfl⟩:=trodAll_nil h
  exact h
 | t::ts,vs,ds,ps,hts,h,hlt,hsp=>by
  obtain ⟨v,vs',d,ds',p,q,rfl,rfl,rfl,h1,h2⟩:=trodAll_cons h
  simp only[List.all_cons,qB6] at hts
  have hrow:t<P.types.size:=by simp_all
  exact ⟨p,q,WideElems.Trod_stays hl hts.1.1 hrow h1 (fun x hx=>hb.same (hlt x (qBn.2 (.inl hx)))) (fun x hx=>hsp x (qBn.2 (.inl hx))),
   qh3 hl hb (by simp_all) h2 (fun x hx=>hlt x (qBn.2 (.inr hx))) (fun x hx=>hsp x (qBn.2 (.inr hx))),rfl⟩
theorem qgp {W:World}{v:Value}{n size:Nat}{cs:List Value}(h:Cells v n size cs W)(hb:∀ a len cap,v=.slice (some a) len cap→cs≠[]→a.block<W.heap.size):Nec W [] (Cells v n size cs):=by
 intro w' hk
 obtain ⟨⟨a,cap,rfl,h1,h2,h3,h4⟩,hl⟩:=h
 refine ⟨⟨a,cap,rfl,h1,h2,h3,fun j u hj=>?_⟩,hl⟩
 obtain ⟨ad,rfl,hc⟩:=h4 j u hj
 refine ⟨ad,rfl,?_⟩
 have hlt:=hb ad n cap rfl (by grind)
 have:=hk.block ad.block hlt (by simp)
 grind [World.cell?]
theorem qx1 {W:World}:∀ ψ∈([]:List (World→Prop)),Nec W [] ψ:=by simp
variable {f:FuncId}{ki kn:IntKind}{Φ:List (World→Prop)}{ys:List Int}{R':List RowD}{c esz j k lim off:Nat}{ix x:Operand}{ao:Option Addr}{β:Type}{V:Value}
theorem qpu {W:World}{φ:World→Prop}(h:Nec W [] φ)(hr:∀ ψ∈Φ,Nec W [] ψ):∀ ψ∈φ::Φ,Nec W [] ψ:=by
 simp_all
theorem qvo {f:Func}{s:ChangeSpec}{apart fresh:Bool}{W W':World}{args:Array Value}{ds gs:List (DataW H)}{before:List MemPlace}{tb:TypeId}(hl:laidOutB P=true)(hts:(f.params.toList.all fun t=>P.readableRec t && Nat.blt t P.types.size)=true)(hrt:f.resultTypes=#[tb])(hb:P.underlying tb=some .bool)(hv:s.vars=[])(hW:DataW.Whole enc P f.params.toList s.vars apart W args.toList ds gs before)(hs:s.fn H (ds++gs)={ results:=[.lit (.bool true)],args:=ds })(hk:Keeps [] W W') :
  s.post enc P f apart fresh false false W args (.bool true) W':=by
 have hlt:=hW.lt
 have hW0:=hW
 obtain ⟨p,q,hA,hV,rfl,hfz,hnd⟩:=hW
 rw[hv] at hV
 obtain ⟨rfl,rfl⟩:=trodVars_none hV
 have hbl:=hk.below
 refine ⟨ds,[],p++[],[],p,[],hW0,?_,?_,?_,?_,fun h=>by cases h⟩
 ·rw[hrt,hs]
  exact trodAll_mk1 (shut_bool hb true)
 ·grind [qh3]
 ·rw[hv,hs]
  trivial
 ·exact hbl.frame _
variable {M0:List Nat}{w0 w:World}{B:List BlkD}{R:List RowD}{F:List (World→Prop)}
theorem Hp.permM {B':List BlkD}(h:Hp M0 w0 w B R F)(hb:∀ b∈B',b.is w)(hr:∀ r∈R',r.owns w)(hp:(muts B R).Perm (muts B' R')):Hp M0 w0 w B' R' F :=
 { keep:=h.keep,blk:=hb,rows:=hr,nodup:=hp.nodup_iff.1 h.nodup,fresh:=fun g hg=>h.fresh g (hp.mem_iff.2 hg),per:=fun φ hφ=>(h.per φ hφ).less (fun _ hk=>hp.mem_iff.2 hk) }
theorem qmk {α:Type}{f:α→β}{xs:List α}{i:Nat}{x:α}(hi:xs[i]?=some x):(xs.map f).Perm (f x::(xs.eraseIdx i).map f):=by
 obtain ⟨A,C,rfl,he⟩:=qed hi
 simp_all
theorem qpg {xs:List RowD}{i:Nat}{x:RowD}{g:Nat}(hi:xs[i]?=some x)(hx:x.blocks=[g]):(xs.flatMap RowD.blocks).Perm (g::(xs.eraseIdx i).flatMap RowD.blocks):=by
 obtain ⟨A,C,rfl,he⟩:=qed hi
 simp_all
theorem Hp.b2r {α:Type}{enc:α→List Value}{size i g e:Nat}{xs:List α}(henc:EncOk enc size)(h:Hp M0 w0 w B R F)(hi:B[i]?=some ⟨g,e,xs.flatMap enc⟩)(hn:xs.length=k)(hk:k≤maxLen) :
  Hp M0 w0 w (B.eraseIdx i) (Ro enc e size (.slice (some ⟨g,0,none⟩) xs.length k) xs::R) F:=by
 refine h.permM (fun b hb=>h.blk b (List.mem_of_mem_eraseIdx hb)) (fun r hr=>?_) ?_
 ·rcases qBp.1 hr with rfl | hr
  ·have hb:w.heap[g]?=some (.cells (xs.flatMap enc).toArray e (0,0)):=h.blk _ (qBl hi)
   refine RowD.owns_one (r:=Ro enc e size (.slice (some ⟨g,0,none⟩) xs.length k) xs) ⟨qQ henc xs,.inr ⟨g,k,(xs.flatMap enc).toArray,rfl,qBH _,hb,?_,hk,?_,?_⟩⟩ rfl
   ·show xs.length≤k;omega
   ·show (xs.flatMap enc).toArray.size=k*size
    grind [qQ]
   ·show (xs.flatMap enc).toArray.toList.take (xs.length*size)=xs.flatMap enc
    grind [qQ]
  ·exact h.rows r hr
 ·have h1:=qmk (f:=fun b:BlkD=>b.g) hi
  unfold muts
  refine (h1.append_right _).trans ?_
  exact (qCn (l₁:=(B.eraseIdx i).map (·.g)) (l₂:=R.flatMap RowD.blocks) (a:=g)).symm
theorem Hp.r2b {α:Type}{enc:α→List Value}{size g e:Nat}{xs:List α}(h:Hp M0 w0 w B R F)(hj:R[j]?=some (Ro enc e size (.slice (some ⟨g,0,none⟩) xs.length k) xs))(hn:xs.length=k) :
  Hp M0 w0 w (⟨g,e,xs.flatMap enc⟩::B) (R.eraseIdx j) F:=by
 have hown:=h.row _ (qBl hj)
 rcases hown.2 with ⟨h5,_⟩ | ⟨g',cap,cur,h5,_,hgg,_,_,hcs,htake⟩
 ·have h5':Value.slice (some ⟨g,0,none⟩) xs.length k=.slice none 0 0:=h5
  simp_all
 ·have h5':Value.slice (some ⟨g,0,none⟩) xs.length k=.slice (some ⟨g',0,none⟩) xs.length cap:=h5
  simp only[Value.slice.injEq,qBs,Addr.mk.injEq,true_and,and_true] at h5'
  obtain ⟨rfl,rfl⟩:=h5'
  have hcs':cur.size=k*size:=hcs
  have htake':cur.toList.take (xs.length*size)=xs.flatMap enc:=htake
  have hgg':w.heap[g]?=some (.cells cur e (0,0)):=hgg
  have hcur:cur=(xs.flatMap enc).toArray:=by
   grind
  refine h.permM (fun b hb=>?_) (fun r hr=>h.rows r (List.mem_of_mem_eraseIdx hr)) ?_
  ·rcases qBp.1 hb with rfl | hb
   ·show w.heap[g]?=some (.cells (xs.flatMap enc).toArray e (0,0))
    grind
   ·exact h.blk b hb
  ·have h1:=qpg (g:=g) hj rfl
   grind [muts]
variable {ro:Option Nat}{n:Nat}{D:List Deferred}{Q:Exit→Act→World→Prop}{ops:Array Oper}{rest:List Oper}{l:Env}{ρ:Type}{m:Option ρ}{r:ρ}
variable {d:Nat}{t t' e:TypeId}{pos:String}{af:Array Edge}{gd:Option (Nat×Bool)}{agg:Bool}{z:Value}{size bytes:Nat}
theorem qoj {α:Type}{enc:α→List Value}{i g:Nat}{xs:List α}(henc:EncOk enc size)(hi:B[i]?=some ⟨g,e,xs.flatMap enc⟩)(hn:xs.length=k)(hk:Nat.ble k maxLen=true)(h:SXO P ro n D M0 w0 Q ops rest l (B.eraseIdx i) (Ro enc e size (.slice (some ⟨g,0,none⟩) xs.length k) xs::R) F m r):SXO P ro n D M0 w0 Q ops rest l B R F m r :=
 fun hm a w hf hp=>h hm a w hf (hp.b2r henc hi hn (qBZ hk))
theorem qs2 {α:Type}{enc:α→List Value}{g:Nat}{xs:List α}(hj:R[j]?=some (Ro enc e size (.slice (some ⟨g,0,none⟩) xs.length k) xs))(hn:xs.length=k)(h:SXO P ro n D M0 w0 Q ops rest l (⟨g,e,xs.flatMap enc⟩::B) (R.eraseIdx j) F m r):SXO P ro n D M0 w0 Q ops rest l B R F m r :=
 fun hm a w hf hp=>h hm a w hf (hp.r2b hj hn)
theorem qrm {parts:Array (Nat×Operand)}{vs:List (Nat×Value)}{cells:List Value}{nn ns nb:Nat}{zc:Value}{ag:Bool}(hw:wants ops l ⟨some d,.build t' parts,t,pos,af,gd⟩=some true)(ht:P.underlying t'=some (.array nn e))(hZ:TyF P t' ag zc ns nb)(hT:TyF P e agg z size bytes)(hp:evParts l parts.toList=some vs)(hfill:Instr.fill (fun i=>some (i*size,size)) zc.cells vs=some cells.toArray)(hd:Nat.blt d n=true)(h:SXO P ro n D M0 w0 Q ops rest ((d,.agg cells.toArray)::l) B R F m r):SXO P ro n D M0 w0 Q ops (⟨some d,.build t' parts,t,pos,af,gd⟩::rest) l B R F m r :=
 qK _ hw rfl hd (fun a w hf _=>by
  have hpe:=hf.evParts hp
  have hpa:(parts.map fun p=>(p.1,a.eval p.2))=vs.toArray:=by grind
  obtain ⟨i,hi,hz,_,_⟩:=hZ.inf
  generalize a.eval=ε at hpa ⊢
  simp only[execOp,hpa,Instr.build]
  simp[zeroValue,typeInfo,hi,hz,run_underlying ht,hT.run_size,hfill]) h
theorem qwE {x:Code}:SXC P ro n D M0 w0 Q x l B R F (none:Option ρ) r:=fun hm=>by grind
theorem qrp {xs:List Int}{k:Int→Option ρ}{i:Int}{N:Nat}(hw:wants ops l ⟨some d,.index t' x ix,t,pos,af,gd⟩=some true)(ht:P.underlying t'=some (.array N e))(hT:TyF P e false z 1 bytes)(hx:ev l x=some (.agg (xs.flatMap (eI kn)).toArray))(hi:ev l ix=some (.int ki i))(hn:xs.length=N)(hd:Nat.blt d n=true)(h:∀ y,idx xs i=some y→SXO P ro n D M0 w0 Q ops rest ((d,.int kn y)::l) B R F (k y) r) :
  SXO P ro n D M0 w0 Q ops (⟨some d,.index t' x ix,t,pos,af,gd⟩::rest) l B R F ((idx xs i).bind k) r:=by
 refine kS hw fun hm a w hf hp=>?_
 cases hq:idx xs i with
 | none=>simp_all
 | some y =>
  rw[hq] at hm
  have hm':k y=some r:=by grind
  obtain ⟨h0,hlt,hy⟩:=qw hq
  have h1:=hf.ev hx
  have h2:=hf.ev hi
  have hlt':i<(N:Int):=by omega
  have e1:xs.flatMap (eI kn)=xs.map (Value.int kn):=by
   clear hx h1 hn hq hlt hy hm h
   induction xs with
   | nil=>rfl
   | cons x xs ih=>rw[qBG,ih];rfl
  have hc:(xs.flatMap (eI kn)).toArray[i.toNat]?=some (.int kn y):=by
   simp_all
  refine ⟨.int kn y,w,?_,h y hq hm' _ _ (hf.put hd _) hp⟩
  generalize a.eval=ε at h1 h2 ⊢
  generalize (xs.flatMap (eI kn)).toArray=cs at hc h1
  simp[execOp,h1,h2,Instr.index,asIntOf,run_underlying ht,hT.run_size,h0,hlt',part,hT.run_isAgg,hc]
theorem qzx {cs:List Value}(h:cs.length=k):((cs.drop 0).take k).length=k:=by simp_all
theorem qzw {cs:List Value}(h:cs.length=k):(if true=true then Value.agg ((cs.drop 0).take k).toArray else ((cs.drop 0).take k).getD 0 undef)=.agg cs.toArray:=by grind
theorem qgE {xs:List Int}(h:xs.length=k):(xs.flatMap (eI kn)).length=k:=by rw[qQ (qA kn) xs,qCd,h]
theorem qzA {cs:List Value}(h:cs.length=k)(hy:ys.length=k):cs.take 0++(Value.agg (ys.flatMap (eI kn)).toArray).cells.toList++cs.drop (0+(Value.agg (ys.flatMap (eI kn)).toArray).cells.size)=ys.flatMap (eI kn):=by
 have h1:=qgE (kn:=kn) hy
 have h2:(Value.agg (ys.flatMap (eI kn)).toArray).cells=(ys.flatMap (eI kn)).toArray:=rfl
 simp_all
theorem qzz:qdX (Value.agg (ys.flatMap (eI kn)).toArray).cells.toList=true:=by
 show (ys.flatMap (eI kn)).all (·.oneCell')=true
 rw[qBX]
 intro v hv
 obtain ⟨y,_,hy⟩:=qCa.1 hv
 exact qBX.1 ((qA kn).ok y) v hy
theorem qzy {xs:List Int}(hn:xs.length=k)(hy:ys.length=k):decide (0+(Value.agg (ys.flatMap (eI kn)).toArray).cells.size≤(xs.flatMap (eI kn)).length)=true:=by
 have h1:=qgE (kn:=kn) hn
 have h2:=qgE (kn:=kn) hy
 have h3:(Value.agg (ys.flatMap (eI kn)).toArray).cells.size=(ys.flatMap (eI kn)).length:=rfl
 simp_all
theorem qzB (h:ys.length=k):(Value.agg (ys.flatMap (eI kn)).toArray).cells.size=k:=by
 show (ys.flatMap (eI kn)).toArray.size=k
 rw[qCg,qgE h]
theorem qiq (k:IntKind):∀ xs:List Int,xs.flatMap (eI k)=xs.map (Value.int k)
 | []=>rfl
 | x::xs=>by rw[qBG,qiq k xs];rfl
theorem qf7 {cur:Array Value}{zs:List Int}(h:zs.length≤cur.size):(Go.Sort.putCells (Value.int .i64) 0 zs.toArray cur).toList.take zs.length=zs.map (Value.int .i64):=by
 apply qBU
 intro j
 unfold Go.Sort.putCells
 grind
theorem qf6 {cur:Array Value}{d:Array Int}{o:Nat}:(Go.Sort.putCells (Value.int .i64) o d cur).size=cur.size:=by simp[Go.Sort.putCells]
theorem qjU {g e:Nat}{fz:Nat×Nat}{cur:Array Value}{d:Array Int}(h:w.heap[g]?=some (.cells cur e fz)):(Go.Sort.putRow (Value.int .i64) w g 0 d).heap[g]?=some (.cells (Go.Sort.putCells (Value.int .i64) 0 d cur) e fz):=by
 unfold Go.Sort.putRow Go.Sort.mapBlock
 show (w.heap.modify g _)[g]?=_
 rw[Array.getElem?_modify,if_pos rfl,h]
 rfl
theorem qn5 {g:Nat}{d:Array Int}(h:k≠g):(Go.Sort.putRow (Value.int .i64) w g 0 d).heap[k]?=w.heap[k]?:=by
 grind [Go.Sort.putRow,Go.Sort.mapBlock]
theorem qgO {g:Nat}{d:Array Int}{os:Array Obj}:Keeps [g] w (Go.Sort.grow (Go.Sort.putRow (Value.int .i64) (Go.Sort.ahead w n) g 0 d) os):=by
 have hs:(Go.Sort.putRow (Value.int .i64) (Go.Sort.ahead w n) g 0 d).heap.size=w.heap.size:=by
  simp
 refine ⟨rfl,rfl,rfl,?_,fun k hk hn=>?_,fun _=>Nat.le_add_right _ _⟩
 ·simp
 ·show ((Go.Sort.putRow (Value.int .i64) (Go.Sort.ahead w n) g 0 d).heap++os)[k]?=_
  rw[Array.getElem?_append_left (by omega),qn5 (by grind)]
  rfl
theorem row_holds {g:Nat}{cur:Array Value}{xs:List Int}(h:w.heap[g]?=some (.cells cur e (0,0)))(ht:cur.toList.take xs.length=xs.map (Value.int .i64)):Go.Sort.Holds (Value.int .i64) w g 0 xs.toArray:=by
 intro j hj
 have hj':j<xs.length:=by omega
 have h1:cur[j]?=some (Value.int .i64 xs[j]):=by
  have:=congrArg (fun l=>l[j]?) ht
  grind
 refine ⟨?_,?_⟩
 ·rw[qB9]
  grind [World.cell?]
 grind [World.frozen?]
def srt (xs:List Int):List Int:=isF (fun x y=>decide (x<y)) xs
theorem qhI (xs:List Int):(srt xs).length=xs.length:=(qhm _ xs).length_eq
theorem qm2 (l:List Int):(srt l).Perm l:=qhm _ l
theorem qsY (l:List Int):(srt l).Pairwise (·≤·) :=
 (qqR (lt:=fun x y:Int=>decide (x<y)) (S:=fun _=>True) (fun a b d _ _ _ h1 h2=>by grind) (fun a b _ _ h=>by grind) l fun _ _=>trivial).imp fun h=>by grind
theorem qAo (l:List Int):(l.mergeSort fun x y=>decide (x≤y))=srt l:=by
 have h:=List.pairwise_mergeSort (le:=fun x y:Int=>decide (x≤y)) (fun a b c h1 h2=>by grind) (fun a b=>by grind) l
 grind [List.Perm.eq_of_pairwise,qsY,List.mergeSort_perm,qm2]
theorem qrf {a:Option Addr}{xs:List Int}(hs:∀ (blk off cap:Nat) (zs:List Int) (w:World),Go.Sort.Holds (Value.int .i64) w blk off zs.toArray→blk<w.heap.size→zs.length<4611686018427387904 →
   Calls P f #[.slice (some ⟨blk,off,none⟩) zs.length cap] w fun e w'=>e=.returned (.tuple #[])∧∃ n os,w'=Go.Sort.grow (Go.Sort.putRow (Value.int .i64) (Go.Sort.ahead w n) blk off (zs.mergeSort fun x y=>decide (x≤y)).toArray) os)(hn:∀ (p:Option Addr) (cap:Nat) (w:World),Calls P f #[.slice p 0 cap] w fun e w'=>e=.returned (.tuple #[])∧w'=w)(hx:xs.length<4611686018427387904) :
  PureM P f [.slice a xs.length c] [] [Ro (eI .i64) e 1 (.slice a xs.length c) xs] Φ Unit (fun _=>.tuple #[]) (fun _=>[]) (fun _=>[Ro (eI .i64) e 1 (.slice a (srt xs).length c) (srt xs)]):=by
 intro w hp
 simp only[qAo] at hs
 have hown:=hp.row _ (qBD.2 rfl)
 have hp0:Hp (muts [] [Ro (eI .i64) e 1 (.slice a xs.length c) xs]) w w [] [Ro (eI .i64) e 1 (.slice a xs.length c) xs] []:=hp.weaken (qBL _) (qBL _) (fun φ h=>by grind)
 rcases hown.2 with ⟨h5,h6⟩ | ⟨g,cap,cur,h5,_,hgg,hnc,hcm,hcs,htake⟩
 ·have h6':xs.length=0:=h6
  have hxs:xs=[]:=qCz.1 h6'
  subst hxs
  have hm:srt []=[]:=rfl
  rw[hm]
  exact (hn a c w).mono (fun e' w' ⟨h1,h2⟩=>⟨(),h1,by simp_all⟩)
 ·have h5':Value.slice a xs.length c=.slice (some ⟨g,0,none⟩) xs.length cap:=h5
  simp only[Value.slice.injEq,true_and] at h5'
  obtain ⟨rfl,rfl⟩:=h5'
  have hgg':w.heap[g]?=some (.cells cur e (0,0)):=hgg
  have htake':cur.toList.take xs.length=xs.map (Value.int .i64):=by
   have:cur.toList.take (xs.length*1)=xs.flatMap (eI .i64):=htake
   rwa [qCd,qiq] at this
  have hcs':cur.size=c:=by have:cur.size=c*1:=hcs;omega
  have hnc':xs.length≤c:=hnc
  have hlt:=(Array.getElem?_eq_some_iff.1 hgg').1
  refine (hs g 0 c xs w (row_holds hgg' htake') hlt hx).mono (fun e' w' ⟨h1,n,os,h2⟩=>⟨(),h1,?_⟩)
  subst h2
  refine hp0.swapRow (i:=0) rfl ?_ (.inl ⟨rfl,qgO⟩)
  have hz:((Go.Sort.putRow (Value.int .i64) (Go.Sort.ahead w n) g 0 (srt xs).toArray).heap++os)[g]?=some (.cells (Go.Sort.putCells (Value.int .i64) 0 (srt xs).toArray cur) e (0,0)):=by
   grind [qjU,Go.Sort.ahead]
  refine ⟨qQ (qA .i64) (srt xs),.inr ⟨g,c,_,rfl,qBH _,hz,?_,hcm,?_,?_⟩⟩
  ·show (srt xs).length≤c;rw[qhI];omega
  ·show _=c*1;rw[qf6,hcs',qCd]
  ·show (Go.Sort.putCells (Value.int .i64) 0 (srt xs).toArray cur).toList.take ((srt xs).length*1)=(srt xs).flatMap (eI .i64)
   rw[qCd,qiq]
   grind [qf7,qhI]
theorem qmj {a:Option Addr}{xs:List Int}(hs:∀ (blk off cap:Nat) (zs:List Int) (w:World),Go.Sort.Holds (Value.int .i64) w blk off zs.toArray→zs.length≤9223372036854775807→zs.length≤cap →
   Calls P f #[.slice (some ⟨blk,off,none⟩) zs.length cap] w fun e w'=>e=.returned (.slice (some ⟨blk,off,none⟩) (Go.Lib.compact zs).length cap)∧∃ q,w'=Go.Sort.putRow (Value.int .i64) (Go.Sort.ahead w q) blk off (Go.Lib.compact zs++qBj (zs.length-(Go.Lib.compact zs).length) 0).toArray)(hn:∀ (p:Option Addr) (cap:Nat) (w:World),Calls P f #[.slice p 0 cap] w fun e w'=>e=.returned (.slice p 0 cap)∧w'=w)(hle:(Go.Lib.compact xs).length≤xs.length) :
  PureM P f [.slice a xs.length c] [] [Ro (eI .i64) e 1 (.slice a xs.length c) xs] Φ (Option Addr×Nat) (fun g=>.slice g.1 (Go.Lib.compact xs).length g.2) (fun _=>[]) (fun g=>[Ro (eI .i64) e 1 (.slice g.1 (Go.Lib.compact xs).length g.2) (Go.Lib.compact xs)]):=by
 intro w hp
 have hown:=hp.row _ (qBD.2 rfl)
 have hp0:Hp (muts [] [Ro (eI .i64) e 1 (.slice a xs.length c) xs]) w w [] [Ro (eI .i64) e 1 (.slice a xs.length c) xs] []:=hp.weaken (qBL _) (qBL _) (fun φ h=>by grind)
 rcases hown.2 with ⟨h5,h6⟩ | ⟨g,cap,cur,h5,_,hgg,hnc,hcm,hcs,htake⟩
 ·have h6':xs.length=0:=h6
  have hxs:xs=[]:=qCz.1 h6'
  subst hxs
  have hc0:Go.Lib.compact ([]:List Int)=[]:=qCz.1 (by rfl)
  rw[hc0]
  exact (hn a c w).mono (fun e' w' ⟨h1,h2⟩=>⟨(a,c),h1,by simp_all⟩)
 ·have h5':Value.slice a xs.length c=.slice (some ⟨g,0,none⟩) xs.length cap:=h5
  simp only[Value.slice.injEq,true_and] at h5'
  obtain ⟨rfl,rfl⟩:=h5'
  have hgg':w.heap[g]?=some (.cells cur e (0,0)):=hgg
  have htake':cur.toList.take xs.length=xs.map (Value.int .i64):=by
   have:cur.toList.take (xs.length*1)=xs.flatMap (eI .i64):=htake
   rwa [qCd,qiq] at this
  have hcs':cur.size=c:=by have:cur.size=c*1:=hcs;omega
  have hnc':xs.length≤c:=hnc
  have hcm':c≤9223372036854775807:=hcm
  refine (hs g 0 c xs w (row_holds hgg' htake') (by omega) hnc').mono (fun e' w' ⟨h1,n,h2⟩=>⟨(some ⟨g,0,none⟩,c),h1,?_⟩)
  subst h2
  have hk:=qgO (w:=w) (g:=g) (n:=n) (d:=(Go.Lib.compact xs++qBj (xs.length-(Go.Lib.compact xs).length) 0).toArray) (os:=#[])
  rw[Go.Sort.grow_empty] at hk
  refine hp0.swapRow (i:=0) rfl ?_ (.inl ⟨rfl,hk⟩)
  have hz:=qjU (w:=Go.Sort.ahead w n) (d:=(Go.Lib.compact xs++qBj (xs.length-(Go.Lib.compact xs).length) 0).toArray) hgg'
  have hdl:(Go.Lib.compact xs++qBj (xs.length-(Go.Lib.compact xs).length) 0).length=xs.length:=by grind
  refine ⟨qQ (qA .i64) (Go.Lib.compact xs),.inr ⟨g,c,_,rfl,qBH _,hz,?_,hcm,?_,?_⟩⟩
  ·show (Go.Lib.compact xs).length≤c;omega
  ·show _=c*1;rw[qf6,hcs',qCd]
  ·show (Go.Sort.putCells (Value.int .i64) 0 _ cur).toList.take ((Go.Lib.compact xs).length*1)=(Go.Lib.compact xs).flatMap (eI .i64)
   have h4:=qf7 (cur:=cur) (zs:=Go.Lib.compact xs++qBj (xs.length-(Go.Lib.compact xs).length) 0) (by omega)
   have h6:=congrArg (List.take (Go.Lib.compact xs).length) h4
   rw[qDT,qC8 (by omega),qC9,qCJ (by simp)] at h6
   rw[qCd,qiq]
   omega
theorem qnH {a:Option Addr}{xs:List Int}{x4 x5:Int}(hs:∀ (blk off cap i j:Nat) (d:Array Int) (w:World),Go.Sort.Holds (Value.int .i64) w blk off d→d.size≤cap→cap≤9223372036854775807→i≤j→j≤d.size →
   Calls P f #[.slice (some ⟨blk,off,none⟩) d.size cap,.int .i64 i,.int .i64 j] w fun e w'=>e=.returned (.slice (some ⟨blk,off,none⟩) (d.size-(j-i)) cap)∧∃ q,w'=Go.Sort.putRow (Value.int .i64) (Go.Sort.ahead w q) blk off (d.toList.take i++d.toList.drop j++qBj (j-i) 0).toArray)(hle:0≤x4∧x4≤x5∧x5≤(xs.length:Int)∧0<xs.length) :
  PureM P f [.slice a xs.length c,.int .i64 x4,.int .i64 x5] [] [Ro (eI .i64) e 1 (.slice a xs.length c) xs] Φ (Option Addr×Nat) (fun g=>.slice g.1 (xs.take x4.toNat++xs.drop x5.toNat).length g.2) (fun _=>[]) (fun g=>[Ro (eI .i64) e 1 (.slice g.1 (xs.take x4.toNat++xs.drop x5.toNat).length g.2) (xs.take x4.toNat++xs.drop x5.toNat)]):=by
 intro w hp
 obtain ⟨h0,h1,h2,h3⟩:=hle
 obtain ⟨i,rfl⟩:=qBm h0
 obtain ⟨j,rfl⟩:=qBm (qDF h0 h1)
 have hij:i≤j:=by omega
 have hj:j≤xs.length:=by omega
 simp only[qBo]
 have hown:=hp.row _ (qBD.2 rfl)
 have hp0:Hp (muts [] [Ro (eI .i64) e 1 (.slice a xs.length c) xs]) w w [] [Ro (eI .i64) e 1 (.slice a xs.length c) xs] []:=hp.weaken (qBL _) (qBL _) (fun φ h=>by grind)
 rcases hown.2 with ⟨h5,h6⟩ | ⟨g,cap,cur,h5,_,hgg,hnc,hcm,hcs,htake⟩
 ·have h6':xs.length=0:=h6
  omega
 ·have h5':Value.slice a xs.length c=.slice (some ⟨g,0,none⟩) xs.length cap:=h5
  simp only[Value.slice.injEq,true_and] at h5'
  obtain ⟨rfl,rfl⟩:=h5'
  have hgg':w.heap[g]?=some (.cells cur e (0,0)):=hgg
  have htake':cur.toList.take xs.length=xs.map (Value.int .i64):=by
   have:cur.toList.take (xs.length*1)=xs.flatMap (eI .i64):=htake
   rwa [qCd,qiq] at this
  have hcs':cur.size=c:=by have:cur.size=c*1:=hcs;omega
  have hnc':xs.length≤c:=hnc
  have hcm':c≤9223372036854775807:=hcm
  have hyl:(xs.take i++xs.drop j).length=xs.length-(j-i):=by grind
  refine (hs g 0 c i j xs.toArray w (row_holds hgg' htake') (by omega) hcm' hij (by omega)).mono (fun e' w' ⟨h1,n,h2⟩=>⟨(some ⟨g,0,none⟩,c),?_,?_⟩)
  ·grind
  subst h2
  have hk:=qgO (w:=w) (g:=g) (n:=n) (d:=(xs.take i++xs.drop j++qBj (j-i) 0).toArray) (os:=#[])
  rw[Go.Sort.grow_empty] at hk
  refine hp0.swapRow (i:=0) rfl ?_ (.inl ⟨rfl,hk⟩)
  have hz:=qjU (w:=Go.Sort.ahead w n) (d:=(xs.take i++xs.drop j++qBj (j-i) 0).toArray) hgg'
  have hdl:(xs.take i++xs.drop j++qBj (j-i) 0).length=xs.length:=by grind
  refine ⟨qQ (qA .i64) (xs.take i++xs.drop j),.inr ⟨g,c,_,rfl,qBH _,hz,?_,hcm,?_,?_⟩⟩
  ·show (xs.take i++xs.drop j).length≤c;omega
  ·show _=c*1;rw[qf6,hcs',qCd]
  ·show (Go.Sort.putCells (Value.int .i64) 0 _ cur).toList.take ((xs.take i++xs.drop j).length*1)=(xs.take i++xs.drop j).flatMap (eI .i64)
   have h4:=qf7 (cur:=cur) (zs:=xs.take i++xs.drop j++qBj (j-i) 0) (by omega)
   have h6:=congrArg (List.take (xs.take i++xs.drop j).length) h4
   rw[qDT,qC8 (by omega),qC9,qCJ (by simp)] at h6
   rw[qCd,qiq]
   omega
theorem qbT {k:IntKind}{cs:Array Value}{o:Nat}{v:Value}(h:P.underlying t=some (.int k))(hv:cs[o]?=some v):(part t cs o).run P w=.ok v w:=by
 simp[part,isAgg,run_underlying h,hv]
theorem qpe {f0 f1 : Field}{k0 k1 : IntKind}{a b c d : Int}(hs : P.underlying t = some (.struct #[f0, f1]))(hst : P.stoodInHeld t = false)(n0 : f0.name ≠ "_")(n1 : f1.name ≠ "_")(o0 : f0.offset = 0)(o1 : f1.offset = 1)(h0:P.underlying f0.type=some (.int k0))(h1:P.underlying f1.type=some (.int k1)):(Op.equal t (.agg #[.int k0 a,.int k1 b]) (.agg #[.int k0 c,.int k1 d])).run P w=.ok ((a == c) && (b == d)) w:=by
 have hf:P.fieldsOf t=#[f0,f1]:=by simp[Program.fieldsOf,hs]
 unfold Op.equal Op.maxDepth
 rw[run_equalIn_agg w 9999 t _ _ (by rw[hf];exact hs) hst,hf]
 simp only[Op.eqFields,o0,o1]
 rw[if_pos n0]
 simp only[Sem.run_bind]
 rw[qbT h0 (v:=.int k0 a) rfl]
 simp only[Result.andThen_ok]
 rw[qbT h0 (v:=.int k0 c) rfl]
 simp only[Result.andThen_ok]
 rw[run_equalIn_int w 9998 _ k0 k0 a c h0]
 simp only[Result.andThen_ok]
 by_cases e:a=c
 ·subst e
  simp only[beq_self_eq_true,Bool.not_true,qBy,if_false]
  rw[if_pos n1]
  simp only[Sem.run_bind]
  rw[qbT h1 (v:=.int k1 b) rfl]
  simp only[Result.andThen_ok]
  rw[qbT h1 (v:=.int k1 d) rfl]
  simp only[Result.andThen_ok]
  rw[run_equalIn_int w 9998 _ k1 k1 b d h1]
  simp only[Result.andThen_ok]
  by_cases e2:b=d
  ·subst e2;simp
  ·simp[e2]
 ·simp[e]
class StE2 (P:Program) (t:TypeId) (k0 k1:outParam IntKind):Prop where
 out : ∃ f0 f1 : Field, P.underlying t = some (.struct #[f0, f1]) ∧ P.stoodInHeld t = false ∧ P.eqGuardType P.depth t = false ∧ f0.name ≠ "_" ∧ f1.name ≠ "_" ∧ f0.offset = 0 ∧ f1.offset = 1 ∧ P.underlying f0.type = some (.int k0) ∧ P.underlying f1.type = some (.int k1)
variable {xt yt:TypeId}
theorem yZ.part {b o:Nat}{cs:List Value}(h:yZ b o cs w):yZ b (o+off) ((cs.drop off).take k) w:=by
 intro j u hj
 have hlt:j<k:=by have:=(qBC.1 hj).1;simp at this;omega
 rw[qCm hlt,qCF] at hj
 rw[Nat.add_assoc]
 exact h _ _ hj
def SlN {α γ:Type}(enc:α×γ→List Value)(inn:α×γ→List (World→Prop))(size:Nat)(v:Value)(xs:List α)(gs:List γ)(w:World):Prop :=
 gs.length=xs.length∧Sl enc size v (xs.zip gs) w∧∀ p∈xs.zip gs,∀ φ∈inn p,φ w
theorem qeO {α γ:Type}{xs:List α}{gs:List γ}(h:gs.length=xs.length):(xs.zip gs).length=xs.length:=by
 simp_all
theorem qsf {α γ:Type}{xs:List α}{gs:List γ}(h:gs.length=xs.length)(i:Int)(k:α→Option ρ):(idx (xs.zip gs) i).bind (fun p=>k p.1)=(idx xs i).bind k:=by
 grind [idx]
theorem qi7 {α γ:Type}{xs:List α}{gs:List γ}{i:Int}{p:α×γ}(h:idx (xs.zip gs) i=some p):idx xs i=some p.1:=by
 grind [idx]
theorem Hp.nestLen {α γ:Type}{enc:α×γ→List Value}{inn:α×γ→List (World→Prop)}{v:Value}{xs:List α}{gs:List γ}(h:Hp M0 w0 w B R F)(hF:F[j]?=some (SlN enc inn size v xs gs)):gs.length=xs.length :=
 (h.per _ (qBl hF)).here.1
theorem Hp.nestIn {α γ:Type}{enc:α×γ→List Value}{inn:α×γ→List (World→Prop)}{v:Value}{xs:List α}{gs:List γ}{p:α×γ}(h:Hp M0 w0 w B R F)(hF:F[j]?=some (SlN enc inn size v xs gs))(hp:p∈xs.zip gs):∀ φ∈inn p,Nec w (muts B R) φ :=
 fun φ hφ w' hk=>(h.per _ (qBl hF) w' hk).2.2 p hp φ hφ
theorem Hp.nestSl {α γ:Type}{enc:α×γ→List Value}{inn:α×γ→List (World→Prop)}{v:Value}{xs:List α}{gs:List γ}(h:Hp M0 w0 w B R F)(hF:F[j]?=some (SlN enc inn size v xs gs)):Nec w (muts B R) (Sl enc size v (xs.zip gs)) :=
 fun w' hk=>(h.per _ (qBl hF) w' hk).2.1
theorem Hp.dropSecond {φ ψ:World→Prop}{L:List (World→Prop)}(h:Hp M0 w0 w B R (φ::ψ::F))(hL:∀ χ∈L,Nec w (muts B R) χ):Hp M0 w0 w B R (φ::(L++F)) :=
 { h with per:=fun χ hχ=>(qBp.1 hχ).elim (fun e=>e▸h.per _ (by simp)) fun hχ=>(qBn.1 hχ).elim (fun hχ=>hL _ hχ) fun hχ=>h.per _ (by simp_all) }
theorem qix {α γ:Type}{enc:α×γ→List Value}{inn:α×γ→List (World→Prop)}{xs:List α}{gs:List γ}{k:α→Option ρ}{i:Int}{v:Value}(henc:EncOk enc size)(hs0:size≠0)(hw:wants ops l ⟨some d,.indexAddr t' x ix,t,pos,af,gd⟩=some true)(ht:P.underlying t'=some (.slice e))(hT:TyF P e agg z size bytes)(hx:ev l x=some v)(hi:ev l ix=some (.int ki i))(hF:F[j]?=some (SlN enc inn size v xs gs))(hd:Nat.blt d n=true)(h:∀ y,idx xs i=some y→∀ q b o,SXO P ro n D M0 w0 Q ops rest ((d,.pointer (some ⟨b,o,none⟩))::l) B R (yZ b o (enc (y,q))::(inn (y,q)++F)) (k y) r) :
  SXO P ro n D M0 w0 Q ops (⟨some d,.indexAddr t' x ix,t,pos,af,gd⟩::rest) l B R F ((idx xs i).bind k) r:=by
 intro hm a w hf hp
 have hl:=hp.nestLen hF
 have hs:=hp.nestSl hF
 rw[← qsf hl] at hm
 refine vL (F:=Sl enc size v (xs.zip gs)::F) (j:=0) henc hs0 hw ht hT hx hi rfl hd (fun p hq b o=>?_) hm a w hf (hp.addFact hs)
 intro hm' a' w' hf' hp'
 have hmem:p∈xs.zip gs:=by
  obtain ⟨_,_,h3⟩:=qw hq
  grind
 have hF':(yZ b o (enc p)::Sl enc size v (xs.zip gs)::F)[j+2]?=some (SlN enc inn size v xs gs):=by grind
 exact h p.1 (qi7 hq) p.2 b o hm' a' w' hf' (hp'.dropSecond (hp'.nestIn hF' hmem))
theorem qtd {α γ:Type}{xs:List α}{gs:List γ}(L H:Nat):((xs.zip gs).take H).drop L=((xs.take H).drop L).zip ((gs.take H).drop L):=by
 apply qBU
 grind
theorem qt2 {x:Code}{α γ:Type}{enc:α×γ→List Value}{inn:α×γ→List (World→Prop)}{xs:List α}{gs:List γ}{k:List α→Option ρ}{li hj:Int}(j:Nat)(henc:EncOk enc size)(hF:F[j]?=some (SlN enc inn size (.slice ao xs.length c) xs gs))(h:∀ ys,sub xs li hj=some ys→∀ a' c' gs',cutv ao c size li hj=.slice a' ys.length c'→xs.length≤c→SXC P ro n D M0 w0 Q x l B R (SlN enc inn size (.slice a' ys.length c') ys gs'::F) (k ys) r) :
  SXC P ro n D M0 w0 Q x l B R F ((sub xs li hj).bind k) r:=by
 intro hm a w hf hp
 have hl:=hp.nestLen hF
 have hs:=hp.nestSl hF
 cases hq:sub xs li hj with
 | none=>simp_all
 | some ys =>
  rw[hq] at hm
  obtain ⟨b1,b2,b3,b4⟩:=qdi hq
  have hz:sub (xs.zip gs) li hj=some (ys.zip ((gs.take hj.toNat).drop li.toNat)):=by
   grind [sub,qtd]
  have hlen:((gs.take hj.toNat).drop li.toNat).length=ys.length:=by simp_all
  refine qpX (c:=c) (ao:=ao) (xs:=xs.zip gs) (F:=Sl enc size (.slice ao xs.length c) (xs.zip gs)::F) (k:=fun _=>k ys) (r:=r) 0 henc (by simp_all) (fun zs hzs a' c' hv hc=>?_) (by rw[hz];grind) a w hf (hp.addFact hs)
  have:zs=ys.zip ((gs.take hj.toNat).drop li.toNat):=by simp_all
  subst this
  intro hm' a2 w' hf' hp'
  rw[qeO hlen] at hv hp'
  rw[qeO hl] at hc
  refine h ys hq a' c' ((gs.take hj.toNat).drop li.toNat) hv hc hm' a2 w' hf' ((hp'.weaken (F':=F) (qBL _) (qBL _) (fun φ h=>qBz _ (qBz _ h))).addFact fun w2 hk=>?_)
  refine ⟨hlen,hp'.per _ (qBv ..) w2 hk,fun p hpm φ hφ=>?_⟩
  have hF':(Sl enc size (.slice a' ys.length c') (ys.zip ((gs.take hj.toNat).drop li.toNat))::Sl enc size (.slice ao xs.length c) (xs.zip gs)::F)[j+2]?=some (SlN enc inn size (.slice ao xs.length c) xs gs):=by grind
  refine hp'.nestIn hF' ?_ φ hφ w2 hk
  rw[b4,← qtd] at hpm
  grind
theorem qm5 {α γ:Type}{enc:α×γ→List Value}{inn:α×γ→List (World→Prop)}{v:Value}(xs:List α)(gs:List γ)(i:Nat)(hl:gs.length=xs.length)(hR:R[i]?=some (Ro enc e size v (xs.zip gs)))(hin:∀ φ∈(xs.zip gs).flatMap inn,φ∈F)(h:SXO P ro n D M0 w0 Q ops rest l B (R.eraseIdx i) (SlN enc inn size v xs gs::F) m r):SXO P ro n D M0 w0 Q ops rest l B R F m r:=by
 intro hm a w hf hp
 have hp2:=hp.freeze hR
 have hp1:Hp M0 w0 w B (R.eraseIdx i) F:=hp2.weaken (qBL _) (qBL _) (fun φ h=>qBz _ h)
 refine h hm a w hf (hp1.addFact fun w' hk=>⟨hl,hp2.per _ (qBv ..) w' hk,fun p hp φ hφ=>hp1.per φ (hin φ (qCa.2 ⟨p,hp,hφ⟩)) w' hk⟩)
theorem qyw {s e':TypeId}(hw:wants ops l ⟨some d,.call ⟨.builtin .cap,#[x],#[s]⟩,t,pos,af,gd⟩=some true)(ht:P.underlying s=some (.slice e'))(hx:ev l x=some (.slice ao k c))(hd:Nat.blt d n=true)(h:SXO P ro n D M0 w0 Q ops rest ((d,.int .i64 (c:Int))::l) B R F m r):SXO P ro n D M0 w0 Q ops (⟨some d,.call ⟨.builtin .cap,#[x],#[s]⟩,t,pos,af,gd⟩::rest) l B R F m r :=
 qK (.int .i64 (c:Int)) hw rfl hd (fun a w hf _=>by
  have h1:=hf.ev hx
  generalize a.eval=e at h1 ⊢
  simp[h1,Builtin.cap_,run_underlying ht,goInt,execOp,resolve,invoke,builtin]) h
theorem qp2 {α:Type}{enc:α→List Value}{xs:List α}{k:List α→Option ρ}{hi:Option Operand}{hj:Int}{i:Nat}(henc:EncOk enc size)(hw:wants ops l ⟨some d,.slice t' x none hi none,t,pos,af,gd⟩=some true)(ht:P.underlying t'=some (.slice e))(hT:TyF P e agg z size bytes)(hx:ev l x=some (.slice ao xs.length c))(hhi:evOpt l hi (xs.length:Int)=some hj)(hR:R[i]?=some (Ro enc e size (.slice ao xs.length c) xs))(hd:Nat.blt d n=true)(h:∀ ys,sub xs 0 hj=some ys→SXO P ro n D M0 w0 Q ops rest ((d,.slice ao ys.length c)::l) B (Ro enc e size (.slice ao ys.length c) ys::R.eraseIdx i) F (k ys) r) :
  SXO P ro n D M0 w0 Q ops (⟨some d,.slice t' x none hi none,t,pos,af,gd⟩::rest) l B R F ((sub xs 0 hj).bind k) r:=by
 refine kS hw fun hm a w hf hp=>?_
 cases hq:sub xs 0 hj with
 | none=>simp_all
 | some ys =>
  rw[hq] at hm
  have hm':k ys=some r:=by grind
  obtain ⟨_,b2,b3,hys⟩:=qdi hq
  obtain ⟨H,rfl⟩:=qBm b2
  have b3':H≤xs.length:=by omega
  have hys':ys=xs.take H:=by simp_all
  have hyl:ys.length=H:=by simp_all
  have hown:=hp.row _ (qBl hR)
  have hcap:xs.length≤c:=by
   rcases hown.2 with ⟨h5,h6⟩ | ⟨g,cap,cur,h5,_,hgg,hnc,_⟩
   ·have h6':xs.length=0:=h6
    omega
   ·have h5':Value.slice ao xs.length c=.slice (some ⟨g,0,none⟩) xs.length cap:=h5
    simp only[Value.slice.injEq,true_and] at h5'
    have:xs.length≤cap:=hnc
    omega
  refine ⟨.slice ao H c,w,?_,?_⟩
  ·have h1:=hf.ev hx
   have e2:=qdz hf hhi
   have hb0:(0:Int)≤(H:Int):=by omega
   have hb1:(H:Int)≤(c:Int):=by omega
   have hn1:H≤c:=by omega
   have hb9:(if c=0 then ao else ao.map (·.add (0*size)))=ao:=by
    split
    ·rfl
    ·rcases hown.2 with ⟨h5,h6⟩ | ⟨g,cap,cur,h5,_,hgg,hnc,_⟩
     ·have h5':Value.slice ao xs.length c=.slice none 0 0:=h5
      simp_all
     ·have h5':Value.slice ao xs.length c=.slice (some ⟨g,0,none⟩) xs.length cap:=h5
      simp only[Value.slice.injEq,true_and] at h5'
      grind [Addr.add_lit]
   generalize hε:a.eval=ε at h1 e2 ⊢
   rcases e2 with ⟨k2,e2⟩ | ⟨rfl,e2⟩
   ·simp[execOp,h1,e2,Instr.sliceAt,Instr.slice,Instr.sliceBounds,Instr.sliceBound,asIntOf,run_underlying ht,hT.run_size,hb0,hn1]
    simp_all
   ·have:H=xs.length:=by omega
    subst this
    simp[execOp,h1,Instr.sliceAt,Instr.slice,Instr.sliceBounds,run_underlying ht,hT.run_size]
    simp_all
  ·have hz:=h ys hq
   rw[hyl] at hz
   refine hz hm' _ _ (hf.put hd _) (hp.swapRow hR ?_ (.inl ⟨by cases ao <;> rfl,Keeps.refl _ _⟩))
   have hfl:=qQ henc ys
   refine ⟨by show (ys.flatMap enc).length=ys.length*size;omega,?_⟩
   rcases hown.2 with ⟨h5,h6⟩ | ⟨g,cap,cur,h5,hb,hgg,hnc,hcm,hcs,htake⟩
   ·have h5':Value.slice ao xs.length c=.slice none 0 0:=h5
    simp_all
   ·have h5':Value.slice ao xs.length c=.slice (some ⟨g,0,none⟩) xs.length cap:=h5
    simp only[Value.slice.injEq,true_and] at h5'
    obtain ⟨rfl,rfl⟩:=h5'
    right
    refine ⟨g,c,cur,?_,hb,hgg,?_,hcm,hcs,?_⟩
    ·show Value.slice (some ⟨g,0,none⟩) H c=.slice (some ⟨g,0,none⟩) ys.length c
     grind
    ·show ys.length≤c
     omega
    ·show cur.toList.take (ys.length*size)=ys.flatMap enc
     have ht':cur.toList.take (xs.length*size)=xs.flatMap enc:=htake
     rw[hyl,hys',qdc henc,← ht',qDT]
     simp_all
theorem qmq (hz:z.cells=#[z])(m:Nat):(Builtin.zeroCells z.cells m).toList=qBj m z:=by
 rw[hz]
 unfold Builtin.zeroCells
 apply qBY
 ·simp
 ·intro i h1 h2
  have hm1:i%1=0:=Nat.mod_one i
  simp[hm1]
theorem qpQ (w:World){ti ty:TypeId}{kk:IntKind}(ht:P.underlying t=some (.slice e))(hti:P.underlying ti=some (.int ki))(hT:TyF P e false z 1 bytes)(hz1:z.cells=#[z])(hzo:z.oneCell'=true){v:Value}{xs:List Value}(hown:w.ownsRow 0 e 1 v n xs)(m:Nat)(h63:n+m≤maxLen)(hbytes:(n+m)*bytes≤140737488355328) :
  ∃ v' w',(Builtin.append_ #[t,ti] ty #[v,.int kk (m:Int)]).run P w=.ok v' w'∧w'.ownsRow 0 e 1 v' (n+m) (xs++qBj m z) ∧
   ((v'.ownBlock=v.ownBlock∧Keeps v.ownBlock.toList w w')∨(Keeps [] w w'∧∀ g,v'.ownBlock=some g→w.heap.size≤g)):=by
 obtain ⟨i,hi,hz,hsz,hby⟩:=hT.inf
 subst hby
 have hsmall:n+m≤9223372036854775807:=by simp only[maxLen] at h63;omega
 have hwrap:IntKind.i64.wrap (m:Int)=(m:Int):=by
  unfold IntKind.wrap
  simp only[IntKind.bits,IntKind.signed,show (2^64:Int)=18446744073709551616 from by decide,show (2^(64-1):Int)=9223372036854775808 from by decide]
  have e1:(m:Int)%18446744073709551616=m:=by omega
  rw[e1,if_neg (by simp;omega)]
 have hm0:¬ ((m:Int)<0):=by omega
 have hmb:m*i.bytes≤140737488355328:=qB5 (qBN _ (by omega)) hbytes
 have hm48:¬ ((281474976710656:Int)<(m:Int)*(i.bytes:Int)):=by
  have:((m*i.bytes:Nat):Int)≤140737488355328:=by omega
  rw[Int.natCast_mul] at this
  omega
 have hmx0:¬ (9223372036854775807:Int)<(n:Int)+(m:Int):=by omega
 have hzc:(Builtin.zeroCells z.cells m).toList=qBj m z:=qmq hz1 m
 have hzc':Builtin.zeroCells #[z] m=(qBj m z).toArray:=by
  rw[← hzc,Array.toArray_toList,hz1]
 have happ:∀ w':World,(if m*1=0 then (pure #[]:Sem (Array Value)) else do pure (Builtin.zeroCells (← zeroValue e).cells m)).run P w'=.ok (qBj m z).toArray w':=by
  intro w'
  by_cases h0:m=0
  ·subst h0;simp
  ·have:¬ m*1=0:=by omega
   rw[if_neg this]
   simp[zeroValue,typeInfo,hi,hz,hz1,hzc']
 have hlen:(xs++qBj m z).length=(n+m)*1:=by rw[qBr,hown.1,qBP];omega
 have hfo:∀ w',w'.heap=w.heap→(Builtin.firstCells 1 n v).run P w'=.ok xs.toArray w':=fun w' hh=>jJ ((zd hown).heap hh)
 have grown:∀ (old:Nat),old<n+m →
   (w.drew.alloc (.cells (xs.toArray++(qBj m z).toArray++Builtin.zeroCells z.cells (grownCap w (n+m) old e-(n+m))) e)).ownsRow 0 e 1
    (.slice (some ⟨w.heap.size,0,none⟩) (n+m) (grownCap w (n+m) old e)) (n+m) (xs++qBj m z) ∧
   Keeps [] w (w.drew.alloc (.cells (xs.toArray++(qBj m z).toArray++Builtin.zeroCells z.cells (grownCap w (n+m) old e-(n+m))) e)):=by
  intro old ho
  have hge:=grownCap_ge w (n+m) old e
  have hcm:grownCap w (n+m) old e≤maxLen:=grownCap_le_maxLen w (n+m) old e h63
  have hx:=hown.1
  refine ⟨⟨hlen,.inr ⟨w.heap.size,_,_,rfl,qBH _,heap_alloc_new w.drew _,hge,hcm,?_,?_⟩⟩,⟨rfl,rfl,rfl,by simp,fun k hk _=>Go.RowKit.Below.heap_alloc w.drew _ k hk,fun _=>Nat.le_succ _⟩⟩
  ·simp only[Array.size_append,qCg,size_zeroCells,hz1,hx,qBP,qCg]
   simp
   omega
  ·simp only[Array.toList_append,qBt]
   rw[← qBt,← hlen]
   exact qCt
 rcases hown.2 with ⟨rfl,rfl⟩ | ⟨g,cap,cur,rfl,hbg,hg,hnc,hcm,hcs,htake⟩
 ·have hx:xs=[]:=List.eq_nil_of_length_eq_zero (by simpa using hown.1)
  subst hx
  by_cases hm:m=0
  ·subst hm
   refine ⟨.slice none 0 0,w,?_,World.ownsRow_nil w 0 e 1,.inr ⟨Keeps.refl _ _,by simp[Value.ownBlock]⟩⟩
   simp[Builtin.append_,run_underlying ht,run_underlying hti,Go.sizeOf,typeInfo,hi,asInt,asIntOf,show IntKind.i64.wrap 0=0 from by decide]
  ·have hgr:=grown 0 (by omega)
   have h48:=qaG (need:=0+m) (cap:=0) (by omega) hbytes
   simp only[qB9,List.nil_append,Array.empty_append] at hgr h48 hbytes ⊢
   refine ⟨_,_,?_,hgr.1,.inr ⟨hgr.2,by simp[Value.ownBlock]⟩⟩
   have hf0:(Builtin.firstCells 1 0 (.slice none 0 0)).run P w.drew=.ok #[] w.drew:=hfo w.drew rfl
   have hm':¬ m≤0:=by omega
   have hmx:¬ (9223372036854775807:Int)<(m:Int):=by omega
   have h48':¬ Builtin.nextslicecap m 0*i.bytes > 2^48:=by simpa using h48
   simp[Builtin.append_,run_underlying ht,run_underlying hti,Go.sizeOf,typeInfo,zeroValue,hi,hz,hsz,asInt,asIntOf,hwrap,hm0,hm48,hm,hmx,h48',Question.forced,hf0,newRow,grownCap,hz1,hzc']
 ·by_cases hroom:n+m≤cap
  ·have hnl:(qBj m z).length=m:=qBP
   have hfit:n*1+(qBj m z).length≤cur.size:=by rw[hnl,hcs];omega
   have hst:=run_storeCells_at P g (n*1) e (qBj m z) 0 cur w hg (by simpa using hfit) (fun v hv=>by rw[(List.mem_replicate.1 hv).2];exact hzo)
   simp only[Nat.add_zero] at hst
   refine ⟨.slice (some ⟨g,0,none⟩) (n+m) cap,w.setRow g (cur.toList.take (n*1)++qBj m z++cur.toList.drop (n*1+(qBj m z).length)).toArray,?_,⟨hlen,.inr ⟨g,cap,_,rfl,hbg,setRow_heap w g cur _ e _ hg,hroom,hcm,?_,?_⟩⟩,.inl ⟨rfl,⟨rfl,rfl,rfl,by simp,fun k _ hk=>setRow_other w g k _ (fun e=>hk (by simp[Value.ownBlock,e])),fun _=>qBw _⟩⟩⟩
   ·have hap:=happ w
    by_cases hm:m=0
    ·subst hm
     simp only[List.replicate_zero] at hst hap ⊢
     simp[Builtin.append_,run_underlying ht,run_underlying hti,Go.sizeOf,typeInfo,zeroValue,hi,hz,hsz,asInt,asIntOf,show IntKind.i64.wrap 0=0 from by decide,hnc,Addr.add_lit]
     simp only[List.length_nil,Nat.add_zero,qBV,List.take_append_drop,qCd,Array.toArray_toList] at hst ⊢
     rw[hst];rfl
    ·simp[Builtin.append_,run_underlying ht,run_underlying hti,Go.sizeOf,typeInfo,zeroValue,hi,hz,hsz,asInt,asIntOf,hwrap,hm0,hm48,hm,hroom,Addr.add_lit,hz1,hzc']
     simp at hst
     rw[hst];rfl
   ·simp only[qCg,qBr,List.length_take,List.length_drop,Array.length_toList]
    omega
   ·rw[htake,← hlen]
    exact qCt
  ·have hgr:=grown cap (by omega)
   refine ⟨_,_,?_,hgr.1,.inr ⟨hgr.2,by simp[Value.ownBlock]⟩⟩
   have hf0:=hfo w.drew rfl
   have hm:¬ m=0:=by omega
   have h48':¬ Builtin.nextslicecap (n+m) cap*i.bytes > 2^48:=by simpa using qaG (by omega) hbytes
   simp[Builtin.append_,run_underlying ht,run_underlying hti,Go.sizeOf,typeInfo,zeroValue,hi,hz,hsz,asInt,asIntOf,hwrap,hm0,hm48,hm,hroom,hmx0,h48',Question.forced,hf0,newRow,grownCap,hz1,hzc']
def appz {α:Type}(lim:Nat)(xs:List α)(y:α)(n:Int):Option (List α):=if 0≤n∧xs.length+n.toNat≤lim then some (xs++qBj n.toNat y) else none
theorem qph {α:Type}{enc:α→List Value}{y:α}(h:enc y=[z])(k:Nat):(qBj k y).flatMap enc=qBj k z:=by
 induction k with
 | zero=>rfl
 | succ k ih=>grind
theorem qwH {α:Type}{enc:α→List Value}{xs:List α}{y:α}{k:List α→Option ρ}{s:Operand}{v:Value}{kk:IntKind}{c:Int}{ti:Nat}(i:Nat)(_henc:EncOk enc 1)(hw:wants ops l ⟨some d,.call ⟨.builtin .append,#[s,x],#[t',ti]⟩,t,pos,af,gd⟩=some true)(ht:P.underlying t'=some (.slice e))(hti:P.underlying ti=some (.int ki))(hT:TyF P e false z 1 bytes)(hz:z.cells=#[z])(hzo:z.oneCell'=true)(hy:enc y=[z])(hd:Nat.blt d n=true)(hs:ev l s=some v)(hx:ev l x=some (.int kk c))(hR:R[i]?=some (Ro enc e 1 v xs))(hlim:Nat.ble lim 9223372036854775807=true)(hlb:Nat.ble (lim*bytes) 140737488355328=true)(h:∀ zs,appz lim xs y c=some zs→∀ a c',SXO P ro n D M0 w0 Q ops rest ((d,.slice a zs.length c')::l) B (Ro enc e 1 (.slice a zs.length c') zs::R.eraseIdx i) F (k zs) r) :
  SXO P ro n D M0 w0 Q ops (⟨some d,.call ⟨.builtin .append,#[s,x],#[t',ti]⟩,t,pos,af,gd⟩::rest) l B R F ((appz lim xs y c).bind k) r:=by
 refine kS hw fun hm a w hf hp=>?_
 cases hq:appz lim xs y c with
 | none=>simp_all
 | some zs =>
  rw[hq] at hm
  have hm':k zs=some r:=by grind
  have hq':=hq
  unfold appz at hq
  split at hq
  ·rename_i hle
   obtain ⟨hc0,hle⟩:=hle
   obtain ⟨m',rfl⟩:=qBm hc0
   simp only[qBs,qBo] at hq hle
   have h1:=hf.ev hs
   have h2:=hf.ev hx
   have hlim':=qBZ hlim
   have hlb':=qBZ hlb
   obtain ⟨v',w',hr,ho,hk⟩:=qpQ (P:=P) (ty:=t) (kk:=kk) w ht hti hT hz hzo (hp.row _ (qBl hR)) m'
    (by show xs.length+m'≤maxLen;grind [maxLen]) (by show (xs.length+m')*bytes≤_;exact qB5 (qBN _ hle) hlb')
   have hown:(Ro enc e 1 v' zs).own w':=by
    have ho':w'.ownsRow 0 e 1 v' (xs.length+m') (xs.flatMap enc++qBj m' z):=ho
    show w'.ownsRow 0 e 1 v' zs.length (zs.flatMap enc)
    grind [qph]
   have hsw:=hp.swapRow hR hown hk
   obtain ⟨ao,c',hv⟩:=hsw.rowForm (show (Ro enc e 1 v' zs::R.eraseIdx i)[0]?=some (Ro enc e 1 v' zs) from rfl)
   subst hv
   refine ⟨_,w',?_,h _ hq' ao c' hm' _ _ (hf.put hd _) hsw⟩
   generalize a.eval=ε at h1 h2 ⊢
   simp only[Ro] at hr
   simp[execOp,resolve,invoke,builtin,h1,h2,hr]
  simp_all
theorem qrr {α:Type}{enc:α→List Value}{xs:List α}{g i:Nat}{v:Value}{y:α}(henc:EncOk enc esz)(hw:wants ops l ⟨some d,.load t' x,t,pos,af,gd⟩=some true)(hx:ev l x=some (.pointer (some ⟨g,i*esz+off,none⟩)))(hT:TyF P t' agg z size bytes)(hR:R[j]?=some (Ro enc e esz v xs))(hg:v.ownBlock=some g)(hy:xs[i]?=some y)(hl:(((enc y).drop off).take size).length=size)(hs:agg=false→size=1)(hV:(if agg then .agg (((enc y).drop off).take size).toArray else (((enc y).drop off).take size).getD 0 undef)=V)(hd:Nat.blt d n=true)(h:SXO P ro n D M0 w0 Q ops rest ((d,V)::l) B R F m r):SXO P ro n D M0 w0 Q ops (⟨some d,.load t' x,t,pos,af,gd⟩::rest) l B R F m r :=
 qK V hw rfl hd (fun a w hf hp=>by
  have h1:=hf.ev hx
  have hc:yZ g (i*esz) (enc y) w:=qlx henc (hp.row _ (qBl hR)) hg hy
  have hr:=qaj hT hc.part hl hV.symm hs
  generalize a.eval=ε at h1 ⊢
  simp[execOp,h1,Instr.loadAt,Instr.sureAddr,hr]) h
def outs {β:Type}(hs:List Nat):Nat→List β→List β
 | _,[]=>[]
 | k,x::t=>if k∈hs then outs hs (k+1) t else x::outs hs (k+1) t
theorem qb8 {β:Type}:∀ (k:Nat) (l:List β),outs [] k l=l
 | _,[]=>rfl
 | k,x::t=>by
  show (if k∈[] then outs [] (k+1) t else x::outs [] (k+1) t)=_
  rw[if_neg (by simp),qb8 (k+1) t]
theorem qmP {β:Type}{hs:List Nat}{j:Nat}:∀ (k:Nat) (l:List β),j<k→outs (j::hs) k l=outs hs k l
 | _,[],_=>rfl
 | k,x::t,h=>by
  show (if k∈j::hs then outs (j::hs) (k+1) t else x::outs (j::hs) (k+1) t)=if k∈hs then outs hs (k+1) t else x::outs hs (k+1) t
  rw[qmP (k+1) t (by omega)]
  grind
theorem qjO {β:Type}{hs:List Nat}{p:β}:∀ (k j:Nat) (l:List β),l[j]?=some p→k+j∉hs→(outs hs k l).Perm (p::outs ((k+j)::hs) k l)
 | _,_,[],h,_=>by grind
 | k,0,x::t,h,hn=>by
  simp only[List.getElem?_cons_zero,qBs] at h
  subst h
  show (if k∈hs then outs hs (k+1) t else x::outs hs (k+1) t).Perm (x::if k∈(k+0)::hs then outs ((k+0)::hs) (k+1) t else x::outs ((k+0)::hs) (k+1) t)
  rw[if_neg (by omega),if_pos (by simp),qmP (k+1) t (by omega)]
 | k,j+1,x::t,h,hn=>by
  have h':t[j]?=some p:=by grind
  have hn':k+1+j∉hs:=by grind
  have ih:=qjO (hs:=hs) (k+1) j t h' hn'
  rw[show k+1+j=k+(j+1) from by omega] at ih
  show (if k∈hs then outs hs (k+1) t else x::outs hs (k+1) t).Perm (p::if k∈(k+(j+1))::hs then outs ((k+(j+1))::hs) (k+1) t else x::outs ((k+(j+1))::hs) (k+1) t)
  by_cases hk:k∈hs
  ·simp_all
  ·rw[if_neg hk,if_neg (by simp_all)]
   exact (ih.cons x).trans (qDR ..)
theorem qlq {β:Type}{hs:List Nat}{p:β}:∀ (k j:Nat) (l:List β),k+j∈hs→outs hs k (l.set j p)=outs hs k l
 | _,_,[],_=>by simp
 | k,0,x::t,h=>by
  grind [outs]
 | k,j+1,x::t,h=>by
  show (if k∈hs then outs hs (k+1) (t.set j p) else x::outs hs (k+1) (t.set j p))=if k∈hs then outs hs (k+1) t else x::outs hs (k+1) t
  rw[qlq (k+1) j t (by grind)]
theorem qlp {β:Type}{hs hs':List Nat}(h:∀ x,x∈hs↔x∈hs'):∀ (k:Nat) (l:List β),outs hs k l=outs hs' k l
 | _,[]=>rfl
 | k,x::t=>by
  show (if k∈hs then outs hs (k+1) t else x::outs hs (k+1) t)=if k∈hs' then outs hs' (k+1) t else x::outs hs' (k+1) t
  rw[qlp h (k+1) t]
  simp_all
theorem qqI {hs:List Nat}(hk:hs[k]?=some j)(hn:hs.Nodup):j∉hs.eraseIdx k∧(hs.eraseIdx k).Nodup∧∀ x,x∈j::hs.eraseIdx k↔x∈hs:=by
 obtain ⟨A,C,rfl,he⟩:=qed hk
 grind
def RowF.row (f:RowF):RowD:=⟨f.v,f.e,f.size,f.n,f.cs⟩
def RowF.cells (f:RowF):World→Prop:=Cells f.v f.n f.size f.cs
def FoR {α:Type}(enc:α→List Value)(e:TypeId)(size:Nat)(v:Value)(xs:List α):RowF:=⟨v,e,size,xs.length,xs.flatMap enc⟩
def guardF (b:Bool):RowF:=⟨.slice none 0 0,0,1,0,if b then [] else [.bool true]⟩
theorem qcA {b:Bool}:(guardF b).own w↔b=true:=by
 grind [guardF,RowF.own,World.ownsRow]
def RoN {α γ:Type}(enc:α×γ→List Value)(rin:α×γ→List RowF)(e:TypeId)(size:Nat)(v:Value)(xs:List α)(gs:List γ)(hs:List Nat):RowD :=
 @RowD.mk v e size xs.length ((xs.zip gs).flatMap enc) ⟨guardF (decide (gs.length=xs.length∧hs.Nodup))::(outs hs 0 (xs.zip gs)).flatMap rin⟩
def InR {β:Type}(rin:β→List RowF)(ps:List β)(hs:List Nat):RowD:=@RowD.mk (.slice none 0 0) 0 1 0 [] ⟨(outs hs 0 ps).flatMap rin⟩
theorem Hp.rowsP (h:Hp M0 w0 w B R F)(hr:∀ r∈R',r.owns w)(hp:(R.flatMap RowD.blocks).Perm (R'.flatMap RowD.blocks)):Hp M0 w0 w B R' F :=
 h.permM h.blk hr (hp.append_left _)
theorem qea {i:Nat}{r:RowD}(hi:R[i]?=some r):R.Perm (r::R.eraseIdx i):=by
 obtain ⟨A,C,rfl,he⟩:=qed hi
 simp_all
theorem Hp.front {i:Nat}{r:RowD}(h:Hp M0 w0 w B R F)(hi:R[i]?=some r):Hp M0 w0 w B (r::R.eraseIdx i) F:=h.perm (qBM _) (qea hi)
theorem qhv (L:List RowF):(L.map RowF.row).flatMap RowD.blocks=L.filterMap (·.v.ownBlock):=by
 induction L with
 | nil=>rfl
 | cons f L ih =>
  rw[qB2,qBG,ih,RowD.blocks_one (r:=f.row) rfl,List.filterMap_cons]
  show f.v.ownBlock.toList++_=_
  grind
variable {α γ:Type}{enc:α×γ→List Value}{rin:α×γ→List RowF}{i:Nat}{v:Value}{xs:List α}{gs:List γ}{hs:List Nat}
theorem Hp.nestOk (h:Hp M0 w0 w B R F)(hR:R[i]?=some (RoN enc rin e size v xs gs hs)):gs.length=xs.length∧hs.Nodup:=by
 have:=(h.rows _ (qBl hR)).2 (guardF (decide (gs.length=xs.length∧hs.Nodup))) (qBv ..)
 simpa using qcA.1 this
theorem qai:(RoN enc rin e size v xs gs hs).blocks=v.ownBlock.toList++((outs hs 0 (xs.zip gs)).flatMap rin).filterMap (·.v.ownBlock):=rfl
theorem qhG {enc:β→List Value}{ps:List β}:(Ro enc e size v ps).blocks=v.ownBlock.toList:=RowD.blocks_one rfl
theorem qis {rin:β→List RowF}{ps:List β}:(InR rin ps hs).blocks=((outs hs 0 ps).flatMap rin).filterMap (·.v.ownBlock):=rfl
theorem qxe (ps:List (α×γ)):(ps.map (·.1)).zip (ps.map (·.2))=ps:=by
 induction ps with
 | nil=>rfl
 | cons p ps ih=>simp_all
theorem Hp.unN (h:Hp M0 w0 w B R F)(hR:R[i]?=some (RoN enc rin e size v xs gs hs)) :
  Hp M0 w0 w B (Ro enc e size v (xs.zip gs)::InR rin (xs.zip gs) hs::R.eraseIdx i) F:=by
 obtain ⟨hl,hn⟩:=h.nestOk hR
 have h1:=h.front hR
 have h2:=h1.rows _ (qBv ..)
 refine h1.rowsP (fun r hr=>?_) ?_
 ·rcases qBp.1 hr with rfl | hr
  ·refine RowD.owns_one ?_ rfl
   have h3:w.ownsRow 0 e size v xs.length ((xs.zip gs).flatMap enc):=h2.1
   show w.ownsRow 0 e size v (xs.zip gs).length ((xs.zip gs).flatMap enc)
   simp_all
  ·rcases qBp.1 hr with rfl | hr
   ·exact ⟨⟨rfl,.inl ⟨rfl,rfl⟩⟩,fun f hf=>h2.2 f (qBz _ hf)⟩
   ·exact h1.rows r (qBz _ hr)
 grind [qhG,qis,qai]
theorem Hp.reN {ps:List (α×γ)}(h:Hp M0 w0 w B (Ro enc e size v ps::InR rin ps hs::R) F)(hn:hs.Nodup):Hp M0 w0 w B (RoN enc rin e size v (ps.map (·.1)) (ps.map (·.2)) hs::R) F:=by
 have hz:=qxe ps
 have h1:=h.rows _ (qBv ..)
 have h2:=h.rows (InR rin ps hs) (by simp)
 refine h.rowsP (fun r hr=>?_) ?_
 ·rcases qBp.1 hr with rfl | hr
  ·refine ⟨?_,fun f hf=>?_⟩
   ·have h3:w.ownsRow 0 e size v ps.length (ps.flatMap enc):=h1.1
    show w.ownsRow 0 e size v (ps.map (·.1)).length (((ps.map (·.1)).zip (ps.map (·.2))).flatMap enc)
    simp_all
   ·rcases qBp.1 hf with rfl | hf
    ·grind [qcA]
    ·rw[hz] at hf
     exact h2.2 f hf
  ·exact h.rows r (by grind)
 grind [qai,qhG,qis]
theorem Hp.openN {p:α×γ}(h:Hp M0 w0 w B R F)(hR:R[i]?=some (RoN enc rin e size v xs gs hs))(hj:(xs.zip gs)[j]?=some p)(hn:j∉hs) :
  Hp M0 w0 w B ((rin p).map RowF.row++RoN enc rin e size v xs gs (j::hs)::R.eraseIdx i) F:=by
 obtain ⟨hl,hnd⟩:=h.nestOk hR
 have h1:=h.front hR
 have h2:=h1.rows _ (qBv ..)
 have ho:=qjO (hs:=hs) 0 j (xs.zip gs) hj (by rwa [qB9])
 rw[qB9] at ho
 have hof:=ho.flatMap_right rin
 rw[qBG] at hof
 have hin:∀ f∈(outs hs 0 (xs.zip gs)).flatMap rin,f.own w:=fun f hf=>h2.2 f (qBz _ hf)
 refine h1.rowsP (fun r hr=>?_) ?_
 ·rcases qBn.1 hr with hr | hr
  ·obtain ⟨f,hf,rfl⟩:=qBK.1 hr
   exact RowD.owns_one (hin f (hof.mem_iff.2 (qBn.2 (.inl hf)))) rfl
  ·rcases qBp.1 hr with rfl | hr
   ·refine ⟨h2.1,fun f hf=>?_⟩
    rcases qBp.1 hf with rfl | hf
    ·exact qcA.2 (by simp[hl,hnd,hn])
    ·exact hin f (hof.mem_iff.2 (qBn.2 (.inr hf)))
   ·exact h1.rows r (qBz _ hr)
 ·rw[qCQ,qBG,qBG,qhv,qai,qai]
  have h3:=hof.filterMap (·.v.ownBlock)
  rw[List.filterMap_append] at h3
  refine ((h3.append_left v.ownBlock.toList).append_right _).trans ?_
  rw[← qBt,← qBt,← qBt]
  exact (List.perm_append_comm.append_right _).append_right _
theorem Hp.closeN {p:α×γ}(h:Hp M0 w0 w B R F)(hT:Takes R ((rin p).map RowF.row) R')(hR:R'[i]?=some (RoN enc rin e size v xs gs hs))(hk:hs[k]?=some j)(hj:(xs.zip gs)[j]?=some p) :
  Hp M0 w0 w B (RoN enc rin e size v xs gs (hs.eraseIdx k)::R'.eraseIdx i) F:=by
 have h0:=h.perm (qBM _) hT.perm
 have hp:((rin p).map RowF.row++R').Perm ((rin p).map RowF.row++RoN enc rin e size v xs gs hs::R'.eraseIdx i):=(qea hR).append_left _
 have h1:=h0.perm (qBM _) hp
 have hN:=h1.nestOk (i:=((rin p).map RowF.row).length) (by rw[List.getElem?_append_right (qBw _),Nat.sub_self];rfl)
 obtain ⟨hl,hnd⟩:=hN
 obtain ⟨b1,b2,b3⟩:=qqI hk hnd
 have ho:=qjO (hs:=hs.eraseIdx k) 0 j (xs.zip gs) hj (by simp_all)
 rw[qB9,qlp b3] at ho
 have hof:=ho.flatMap_right rin
 rw[qBG] at hof
 have h2:=h1.rows (RoN enc rin e size v xs gs hs) (by simp)
 refine h1.rowsP (fun r hr=>?_) ?_
 ·rcases qBp.1 hr with rfl | hr
  ·refine ⟨h2.1,fun f hf=>?_⟩
   rcases qBp.1 hf with rfl | hf
   ·grind [qcA]
   ·rcases qBn.1 (hof.mem_iff.1 hf) with hf | hf
    ·exact (h1.rows f.row (qBn.2 (.inl (qBK.2 ⟨f,hf,rfl⟩)))).1
    ·exact h2.2 f (qBz _ hf)
  ·exact h1.rows r (by grind)
 grind [qhv,qai]
theorem qoF {y:α}{q:γ}:∀ (xs:List α) (gs:List γ) (j:Nat),(xs.set j y).zip (gs.set j q)=(xs.zip gs).set j (y,q)
 | [],gs,j=>by simp
 | x::xs,[],j=>by simp
 | x::xs,g::gs,0=>by simp
 | x::xs,g::gs,j+1=>by
  rw[qCT,qCT,qDx,qDx,qCT,qoF xs gs j]
theorem qi0 {β:Type}{enc:β→List Value}{p p':β}(he:enc p'=enc p):∀ (ps:List β) (j:Nat),ps[j]?=some p→(ps.set j p').flatMap enc=ps.flatMap enc
 | [],j,h=>by rfl
 | x::ps,0,h=>by
  simp_all
 | x::ps,j+1,h=>by
  rw[qCT,qBG,qBG,qi0 he ps j (by grind)]
theorem Hp.turnN {p:α×γ}{y:α}{q:γ}(h:Hp M0 w0 w B R F)(hR:R[i]?=some (RoN enc rin e size v xs gs hs))(hk:j∈hs)(hj:(xs.zip gs)[j]?=some p)(he:enc (y,q)=enc p) :
  Hp M0 w0 w B (RoN enc rin e size v (xs.set j y) (gs.set j q) hs::R.eraseIdx i) F:=by
 obtain ⟨hl,hnd⟩:=h.nestOk hR
 have h1:=h.front hR
 have h2:=h1.rows _ (qBv ..)
 have hz:=qoF (y:=y) (q:=q) xs gs j
 have ho:outs hs 0 ((xs.set j y).zip (gs.set j q))=outs hs 0 (xs.zip gs):=by rw[hz];exact qlq 0 j _ (by simp_all)
 refine h1.rowsP (fun r hr=>?_) ?_
 ·rcases qBp.1 hr with rfl | hr
  ·refine ⟨?_,fun f hf=>?_⟩
   ·have h3:w.ownsRow 0 e size v xs.length ((xs.zip gs).flatMap enc):=h2.1
    show w.ownsRow 0 e size v (xs.set j y).length (((xs.set j y).zip (gs.set j q)).flatMap enc)
    grind [qi0]
   ·rcases qBp.1 hf with rfl | hf
    ·grind [qcA]
    ·rw[ho] at hf
     exact h2.2 f (qBz _ hf)
  ·exact h1.rows r (qBz _ hr)
 grind [qai]
theorem Hp.nestOf (h:Hp M0 w0 w B R F)(hR:R[i]?=some (Ro enc e size v (xs.zip gs)))(hl:gs.length=xs.length)(hT:Takes (R.eraseIdx i) (((xs.zip gs).flatMap rin).map RowF.row) R') :
  Hp M0 w0 w B (RoN enc rin e size v xs gs []::R') F:=by
 have h1:=h.perm (qBM _) ((qea hR).trans (hT.perm.cons _))
 have h2:=h1.rows _ (qBv ..)
 refine h1.rowsP (fun r hr=>?_) ?_
 ·rcases qBp.1 hr with rfl | hr
  ·refine ⟨?_,fun f hf=>?_⟩
   ·have h3:w.ownsRow 0 e size v (xs.zip gs).length ((xs.zip gs).flatMap enc):=h2.1
    show w.ownsRow 0 e size v xs.length ((xs.zip gs).flatMap enc)
    simp_all
   ·rcases qBp.1 hf with rfl | hf
    ·grind [qcA]
    ·rw[qb8] at hf
     exact (h1.rows f.row (by grind)).1
  ·exact h1.rows r (by grind)
 grind [qhv,qai,qb8,qhG]
theorem Hp.nestNil (h:Hp M0 w0 w B R F)(hR:R[i]?=some (Ro enc e size v (xs.zip gs)))(hl:gs.length=xs.length)(hz:∀ p∈xs.zip gs,∀ f∈rin p,f.v=.slice none 0 0∧f.n=0∧f.cs=[]) :
  Hp M0 w0 w B (RoN enc rin e size v xs gs []::R.eraseIdx i) F:=by
 have h1:=h.front hR
 have h2:=h1.rows _ (qBv ..)
 have hz':∀ f∈(xs.zip gs).flatMap rin,f.v=.slice none 0 0∧f.n=0∧f.cs=[]:=fun f hf=>by
  grind
 refine h1.rowsP (fun r hr=>?_) ?_
 ·rcases qBp.1 hr with rfl | hr
  ·refine ⟨?_,fun f hf=>?_⟩
   ·have h3:w.ownsRow 0 e size v (xs.zip gs).length ((xs.zip gs).flatMap enc):=h2.1
    show w.ownsRow 0 e size v xs.length ((xs.zip gs).flatMap enc)
    simp_all
   ·rcases qBp.1 hf with rfl | hf
    ·grind [qcA]
    ·rw[qb8] at hf
     obtain ⟨e1,e2,e3⟩:=hz' f hf
     exact ⟨by simp_all,.inl ⟨e1,e2⟩⟩
  ·exact h1.rows r (qBz _ hr)
 ·rw[qBG,qBG,qai,qb8,qhG]
  have:((xs.zip gs).flatMap rin).filterMap (·.v.ownBlock)=[]:=by
   rw[List.filterMap_eq_nil_iff]
   intro f hf
   rw[(hz' f hf).1];rfl
  grind
theorem zU {inn:α×γ→List (World→Prop)}(hri:∀ p,inn p=(rin p).map RowF.cells):∀ w,(RoN enc rin e size v xs gs []).owns w→SlN enc inn size v xs gs w:=by
 intro w h
 have hl:gs.length=xs.length:=by
  have:=h.2 (guardF (decide (gs.length=xs.length∧([]:List Nat).Nodup))) (qBv ..)
  have h2:=qcA.1 this
  simp_all
 refine ⟨hl,?_,fun p hp φ hφ=>?_⟩
 ·have h4:w.ownsRow 0 e size v xs.length ((xs.zip gs).flatMap enc):=h.1
  show Cells v (xs.zip gs).length size ((xs.zip gs).flatMap enc) w
  grind [zd]
 ·rw[hri] at hφ
  obtain ⟨f,hf,rfl⟩:=qBK.1 hφ
  have hfm:f∈(outs [] 0 (xs.zip gs)).flatMap rin:=by grind [qb8]
  exact zd (h.2 f (qBz _ hfm))
theorem qxf {i:Int}{y:α}(hl:gs.length=xs.length)(h:idx xs i=some y):∃ q,(xs.zip gs)[i.toNat]?=some (y,q):=by
 obtain ⟨_,_,h3⟩:=qw h
 simp_all
theorem qwN {k:α→Option ρ}{i:Int}(hw:wants ops l ⟨some d,.indexAddr t' x ix,t,pos,af,gd⟩=some true)(ht:P.underlying t'=some (.slice e))(hT:TyF P e agg z size bytes)(hx:ev l x=some (.slice ao xs.length c))(hi:ev l ix=some (.int ki i))(hR:R[j]?=some (RoN enc rin e size (.slice ao xs.length c) xs gs hs))(hd:Nat.blt d n=true)(h:∀ y,idx xs i=some y→∀ q,(xs.zip gs)[i.toNat]?=some (y,q)→∀ g,(Value.slice ao xs.length c).ownBlock=some g→SXO P ro n D M0 w0 Q ops rest ((d,.pointer (some ⟨g,i.toNat*size,none⟩))::l) B R F (k y) r) :
  SXO P ro n D M0 w0 Q ops (⟨some d,.indexAddr t' x ix,t,pos,af,gd⟩::rest) l B R F ((idx xs i).bind k) r:=by
 intro hm a w hf hp
 obtain ⟨hl,_⟩:=hp.nestOk hR
 have hu:=hp.unN hR
 have hm2:=hm
 rw[← qsf hl] at hm2
 have hx':ev l x=some (.slice ao (xs.zip gs).length c):=by simp_all
 refine qcv (R:=Ro enc e size (.slice ao (xs.zip gs).length c) (xs.zip gs)::InR rin (xs.zip gs) hs::R.eraseIdx j) (j:=0) (k:=fun p=>k p.1) hw ht hT hx' hi rfl hd (fun p hq g hg=>?_) hm2 a w hf (by rw[qeO hl];exact hu)
 intro hm' a' w' hf' hp'
 have hback:Hp M0 w0 w' B R F:=by
  rw[qeO hl] at hp'
  have h1:=hp'.reN (hp.nestOk hR).2
  rw[show (xs.zip gs).map (·.1)=xs from qC0 (by omega),show (xs.zip gs).map (·.2)=gs from qDI (by omega)] at h1
  exact h1.perm (qBM _) (qea hR).symm
 obtain ⟨_,_,h3⟩:=qw hq
 rw[qeO hl] at hg
 exact h p.1 (qi7 hq) p.2 h3 g hg hm' a' w' hf' hback
theorem qpZ {x:Code}{k:α→Option ρ}{i:Int}(hR:R[j]?=some (RoN enc rin e size (.slice ao xs.length c) xs gs hs))(h:∀ y,idx xs i=some y→∀ q,(xs.zip gs)[i.toNat]?=some (y,q)→∀ g,ao=some ⟨g,0,none⟩→SXC P ro n D M0 w0 Q x l B R F (k y) r) :
  SXC P ro n D M0 w0 Q x l B R F ((idx xs i).bind k) r:=by
 intro hm a w hf hp
 obtain ⟨hl,_⟩:=hp.nestOk hR
 cases hq:idx xs i with
 | none=>simp_all
 | some y =>
  rw[hq] at hm
  have hm':k y=some r:=by grind
  obtain ⟨q,hz⟩:=qxf hl hq
  obtain ⟨_,hlt,_⟩:=qw hq
  have hown:=hp.row _ (qBl hR)
  rcases hown.2 with ⟨h5,h6⟩ | ⟨g,cap,cur,h5,_⟩
  ·have h6':xs.length=0:=h6
   omega
  ·have h5':Value.slice ao xs.length c=.slice (some ⟨g,0,none⟩) xs.length cap:=h5
   simp only[Value.slice.injEq] at h5'
   exact h y hq q hz g h5'.1 hm' a w hf hp
theorem qj4 {p:α×γ}(hR:R[i]?=some (RoN enc rin e size v xs gs hs))(hj:(xs.zip gs)[j]?=some p)(hn:j∉hs)(h:SXO P ro n D M0 w0 Q ops rest l B ((rin p).map RowF.row++RoN enc rin e size v xs gs (j::hs)::R.eraseIdx i) F m r):SXO P ro n D M0 w0 Q ops rest l B R F m r :=
 fun hm a w hf hp=>h hm a w hf (hp.openN hR hj hn)
theorem qeS {x:Code}{p:α×γ}(hR:R[i]?=some (RoN enc rin e size v xs gs hs))(hj:(xs.zip gs)[j]?=some p)(hn:j∉hs)(h:SXC P ro n D M0 w0 Q x l B ((rin p).map RowF.row++RoN enc rin e size v xs gs (j::hs)::R.eraseIdx i) F m r):SXC P ro n D M0 w0 Q x l B R F m r :=
 fun hm a w hf hp=>h hm a w hf (hp.openN hR hj hn)
theorem qiv {x:Code}{p:α×γ}(hT:Takes R ((rin p).map RowF.row) R')(hR:R'[i]?=some (RoN enc rin e size v xs gs hs))(hk:hs[k]?=some j)(hj:(xs.zip gs)[j]?=some p)(h:SXC P ro n D M0 w0 Q x l B (RoN enc rin e size v xs gs (hs.eraseIdx k)::R'.eraseIdx i) F m r):SXC P ro n D M0 w0 Q x l B R F m r :=
 fun hm a w hf hp=>h hm a w hf (hp.closeN hT hR hk hj)
theorem Hp.closeT {p:α×γ}{y:α}{q:γ}(hp:Hp M0 w0 w B R F)(hT:Takes R ((rin (y,q)).map RowF.row) R')(hR:R'[i]?=some (RoN enc rin e size v xs gs hs))(hk:hs[k]?=some j)(hj:(xs.zip gs)[j]?=some p)(he:enc (y,q)=enc p) :
  Hp M0 w0 w B (RoN enc rin e size v (xs.set j y) (gs.set j q) (hs.eraseIdx k)::R'.eraseIdx i) F:=by
 have h0:=hp.perm (qBM _) hT.perm
 have hp2:((rin (y,q)).map RowF.row++R').Perm (RoN enc rin e size v xs gs hs::((rin (y,q)).map RowF.row++R'.eraseIdx i)) :=
  ((qea hR).append_left _).trans qCn
 have h1:=h0.perm (qBM _) hp2
 have h2:=h1.turnN (i:=0) rfl (qBl hk) hj he
 have h3:=h2.perm (qBM _) (qCn (l₁:=(rin (y,q)).map RowF.row) (a:=RoN enc rin e size v (xs.set j y) (gs.set j q) hs) (l₂:=R'.eraseIdx i)).symm
 have hz:((xs.set j y).zip (gs.set j q))[j]?=some (y,q):=by grind
 have hTk:∀ (A C:List RowD),Takes (A++C) A C:=by
  intro A
  induction A with
  | nil=>intro C;exact .nil
  | cons a A ih=>intro C;exact .cons 0 rfl (ih C)
 exact h3.closeN (i:=0) (hTk _ _) rfl hk hz
theorem qri {x:Code}{kh:Nat}{p:α×γ}{y:α}{q:γ}{k:List α→Option ρ}(hT:Takes R ((rin (y,q)).map RowF.row) R')(hR:R'[i]?=some (RoN enc rin e size (.slice ao xs.length c) xs gs hs))(hk:hs[kh]?=some j)(hj:(xs.zip gs)[j]?=some p)(he:enc (y,q)=enc p)(h:∀ ys,xs.set j y=ys→Value.slice ao xs.length c=.slice ao ys.length c→∀ ks:List γ,SXC P ro n D M0 w0 Q x l B (RoN enc rin e size (.slice ao ys.length c) ys ks (hs.eraseIdx kh)::R'.eraseIdx i) F (k ys) r):SXC P ro n D M0 w0 Q x l B R F (lett (xs.set j y) k) r:=by
 intro hm a w hf hp
 have h1:=h _ rfl (by simp) (gs.set j q)
 refine h1 hm a w hf ?_
 rw[qBA]
 exact hp.closeT hT hR hk hj he
theorem qwC {x:Code}{u:Value}(hu:look l d=some u)(he:u=v)(h:SXC P ro n D M0 w0 Q x ((d,v)::l) B R F m r):SXC P ro n D M0 w0 Q x l B R F m r :=
 fun hm a w hf hp=>h hm a w (hf.again hu he) hp
theorem qof {x:Code}{g e:Nat}{cs cs':List Value}(hB:B[i]?=some ⟨g,e,cs⟩)(he:cs=cs')(h:SXC P ro n D M0 w0 Q x l (B.set i ⟨g,e,cs'⟩) R F m r):SXC P ro n D M0 w0 Q x l B R F m r:=by
 subst he
 have:B.set i ⟨g,e,cs⟩=B:=by
  apply qBU
  grind
 simp_all
theorem quf {g:Nat}{p:α×γ}(henc:EncOk enc esz)(hw:wants ops l ⟨some d,.load t' x,t,pos,af,gd⟩=some true)(hx:ev l x=some (.pointer (some ⟨g,i*esz+off,none⟩)))(hT:TyF P t' agg z size bytes)(hR:R[j]?=some (RoN enc rin e esz v xs gs hs))(hg:v.ownBlock=some g)(hy:(xs.zip gs)[i]?=some p)(hl:(((enc p).drop off).take size).length=size)(hs:agg=false→size=1)(hV:(if agg then .agg (((enc p).drop off).take size).toArray else (((enc p).drop off).take size).getD 0 undef)=V)(hd:Nat.blt d n=true)(h:SXO P ro n D M0 w0 Q ops rest ((d,V)::l) B R F m r):SXO P ro n D M0 w0 Q ops (⟨some d,.load t' x,t,pos,af,gd⟩::rest) l B R F m r :=
 qK V hw rfl hd (fun a w hf hp=>by
  have h1:=hf.ev hx
  have hu:=hp.unN hR
  have hc:yZ g (i*esz) (enc p) w:=qlx henc (hu.row _ (qBv ..)) hg hy
  have hr:=qaj hT hc.part hl hV.symm hs
  generalize a.eval=ε at h1 ⊢
  simp[execOp,h1,Instr.loadAt,Instr.sureAddr,hr]) h
theorem qiy {g:Nat}{p:α×γ}(henc:EncOk enc esz)(hw:wants ops l ⟨some d,.load t' x,t,pos,af,gd⟩=some true)(hx:ev l x=some (.pointer (some ⟨g,i*esz,none⟩)))(hT:TyF P t' agg z size bytes)(hR:R[j]?=some (RoN enc rin e esz v xs gs hs))(hg:v.ownBlock=some g)(hy:(xs.zip gs)[i]?=some p)(hl:(enc p).length=size)(hs:agg=false→size=1)(hV:(if agg then .agg (enc p).toArray else (enc p).getD 0 undef)=V)(hd:Nat.blt d n=true)(h:SXO P ro n D M0 w0 Q ops rest ((d,V)::l) B R F m r):SXO P ro n D M0 w0 Q ops (⟨some d,.load t' x,t,pos,af,gd⟩::rest) l B R F m r:=by
 have e1:((enc p).drop 0).take size=enc p:=by grind
 exact quf (off:=0) henc hw hx hT hR hg hy (by simp_all) hs (by simp_all) hd h
theorem qrv {y:Operand}{g:Nat}{y':α}{q':γ}{k:List α→Option ρ}(henc:EncOk enc size)(hw:wants ops l ⟨none,.store t' x y,t,pos,af,gd⟩=some true)(hx:ev l x=some (.pointer (some ⟨g,i*size,none⟩)))(hy:ev l y=some V)(hT:TyF P t' agg z size bytes)(hR:R[j]?=some (RoN enc rin e size (.slice ao xs.length c) xs gs hs))(hg:(Value.slice ao xs.length c).ownBlock=some g)(hh:i∈hs)(hi:i<xs.length)(hV:V.cells.toList=enc (y',q'))(h:∀ ys,xs.set i y'=ys→Value.slice ao xs.length c=.slice ao ys.length c→SXO P ro n D M0 w0 Q ops rest l B (RoN enc rin e size (.slice ao ys.length c) ys (gs.set i q') hs::R.eraseIdx j) F (k ys) r) :
  SXO P ro n D M0 w0 Q ops (⟨none,.store t' x y,t,pos,af,gd⟩::rest) l B R F (lett (xs.set i y') k) r:=by
 intro hm a w hf hp
 obtain ⟨hl,hnd⟩:=hp.nestOk hR
 have hu:=hp.unN hR
 have hsl:(xs.set i y').length=xs.length:=qBA
 refine qlQ (R:=Ro enc e size (.slice ao xs.length c) (xs.zip gs)::InR rin (xs.zip gs) hs::R.eraseIdx j) (j:=0) (m:=lett (xs.set i y') k) henc hw hx hy hT rfl hg (by simp_all) hV ?_ hm a w hf hu
 intro hm' a' w' hf' hp'
 have h1:=h _ rfl (by simp)
 refine h1 hm' a' w' hf' ?_
 have e1:InR rin (xs.zip gs) hs=InR rin ((xs.zip gs).set i (y',q')) hs:=by
  unfold InR
  rw[qlq 0 i _ (by simp_all)]
 have hp2:Hp M0 w0 w' B (Ro enc e size (.slice ao xs.length c) ((xs.zip gs).set i (y',q'))::InR rin ((xs.zip gs).set i (y',q')) hs::R.eraseIdx j) F:=by
  simp_all
 have h3:=hp2.reN hnd
 rw[← qoF,show ((xs.set i y').zip (gs.set i q')).map (·.1)=xs.set i y' from qC0 (by simp_all),show ((xs.set i y').zip (gs.set i q')).map (·.2)=gs.set i q' from qDI (by simp_all)] at h3
 simp_all
theorem jL {y:Operand}{g kh:Nat}{y':α}{q':γ}{k:List α→Option ρ}(henc:EncOk enc size)(hw:wants ops l ⟨none,.store t' x y,t,pos,af,gd⟩=some true)(hx:ev l x=some (.pointer (some ⟨g,i*size,none⟩)))(hy:ev l y=some V)(hT:TyF P t' agg z size bytes)(hR:R[j]?=some (RoN enc rin e size (.slice ao xs.length c) xs gs hs))(hg:(Value.slice ao xs.length c).ownBlock=some g)(hk:hs[kh]?=some i)(hi:i<xs.length)(hV:V.cells.toList=enc (y',q'))(hTk:Takes (R.eraseIdx j) ((rin (y',q')).map RowF.row) R')(h:∀ ys,xs.set i y'=ys→Value.slice ao xs.length c=.slice ao ys.length c→∀ ks:List γ,SXO P ro n D M0 w0 Q ops rest l B (RoN enc rin e size (.slice ao ys.length c) ys ks (hs.eraseIdx kh)::R') F (k ys) r) :
  SXO P ro n D M0 w0 Q ops (⟨none,.store t' x y,t,pos,af,gd⟩::rest) l B R F (lett (xs.set i y') k) r:=by
 intro hm a w hf hp
 obtain ⟨hl,hnd⟩:=hp.nestOk hR
 refine qrv henc hw hx hy hT hR hg (qBl hk) hi hV (fun ys hys hv=>?_) hm a w hf hp
 intro hm' a' w' hf' hp'
 refine h ys hys hv (gs.set i q') hm' a' w' hf' ?_
 have hz:((xs.set i y').zip (gs.set i q'))[i]?=some (y',q'):=by
  grind
 rw[hys] at hz
 have hp2:=hp'.perm (qBM _) (hTk.perm.cons _)
 have hp3:=hp2.perm (qBM _) (qCn (l₁:=(rin (y',q')).map RowF.row) (a:=RoN enc rin e size (.slice ao ys.length c) ys (gs.set i q') hs) (l₂:=R')).symm
 have hTkk:∀ (A C:List RowD),Takes (A++C) A C:=by
  intro A
  induction A with
  | nil=>intro C;exact .nil
  | cons a A ih=>intro C;exact .cons 0 rfl (ih C)
 exact hp3.closeN (i:=0) (hTkk _ _) rfl hk hz
theorem qlP (xs:List α)(gs:List γ)(hR:R[i]?=some (Ro enc e size v (xs.zip gs)))(hl:gs.length=xs.length)(hT:Takes (R.eraseIdx i) (((xs.zip gs).flatMap rin).map RowF.row) R')(h:SXO P ro n D M0 w0 Q ops rest l B (RoN enc rin e size v xs gs []::R') F m r):SXO P ro n D M0 w0 Q ops rest l B R F m r :=
 fun hm a w hf hp=>h hm a w hf (hp.nestOf hR hl hT)
theorem qq1 {zc:List Value}(hsz:zc.length=size)(h0:size≠0){ca:Array Value}(hc:ca.toList=zc)(k:Nat):(madeCells ca (k*size)).toList=(qBj k zc).flatten:=by
 have hca:ca.size=size:=by rw[← hsz,← hc,Array.length_toList]
 have hfl:∀ (k:Nat),((qBj k zc).flatten).length=k*size:=by
  intro k
  induction k with
  | zero=>simp
  | succ k ih=>rw[qCq,qDD,qBr,ih,hsz,Nat.succ_mul];omega
 apply qBY
 ·rw[hfl];simp[madeCells]
 ·intro i h1 h2
  have hi:i<k*size:=by rw[hfl] at h2;exact h2
  have hget:∀ (k i:Nat) (h:i<((qBj k zc).flatten).length),((qBj k zc).flatten)[i]=zc[i%size]'(by rw[hsz];exact Nat.mod_lt _ (by omega)):=by
   intro k
   induction k with
   | zero=>intro i h;simp at h
   | succ k ih =>
    intro i h
    simp only[qCq,qDD,List.getElem_append]
    split
    ·rename_i hlt
     have:i%size=i:=Nat.mod_eq_of_lt (by omega)
     simp only[this]
    ·rename_i hlt
     rw[ih]
     have:(i-zc.length)%size=i%size:=by
      rw[hsz]
      have hge:size≤i:=by omega
      exact (Nat.mod_eq_sub_mod hge).symm
     simp only[this]
  rw[hget]
  simp only[madeCells,Array.getElem_toList,Array.getElem_map,Array.getElem_range]
  have hlt:i%ca.size<ca.size:=Nat.mod_lt _ (by omega)
  rw[getElem!_pos ca _ hlt]
  subst hc
  simp only[Array.getElem_toList,hca]
theorem qnI {enc:β→List Value}{y:β}{zc:List Value}(h:enc y=zc)(k:Nat):(qBj k y).flatMap enc=(qBj k zc).flatten:=by
 induction k with
 | zero=>rfl
 | succ k ih=>grind
theorem qs1 {enc:β→List Value}{y:β}{k:List β→Option ρ}{c:Operand}{kl kc:IntKind}{i:Int}(henc:EncOk enc size)(hs0:size≠0)(hw:wants ops l ⟨some d,.makeSlice t' x c,t,pos,af,gd⟩=some true)(ht:P.underlying t'=some (.slice e))(hT:TyF P e agg z size bytes)(hx:ev l x=some (.int kl i))(hc:ev l c=some (.int kc i))(hy:enc y=z.cells.toList)(hlim:Nat.ble lim 9223372036854775807=true)(hlb:Nat.ble (lim*bytes) 281474976710656=true)(hd:Nat.blt d n=true)(h:∀ ys,mk lim y i=some ys→∀ a c,SXO P ro n D M0 w0 Q ops rest ((d,.slice a ys.length c)::l) B (Ro enc e size (.slice a ys.length c) ys::R) F (k ys) r) :
  SXO P ro n D M0 w0 Q ops (⟨some d,.makeSlice t' x c,t,pos,af,gd⟩::rest) l B R F ((mk lim y i).bind k) r:=by
 refine kS hw fun hm a w hf hp=>?_
 cases hq:mk lim y i with
 | none=>simp_all
 | some ys =>
  rw[hq] at hm
  have hm':k ys=some r:=by grind
  have hq0:=hq
  unfold mk at hq
  split at hq
  ·rename_i hb
   simp only[qBs] at hq
   obtain ⟨N,rfl⟩:=qBm hb.1
   have hN:N≤lim:=by omega
   have hlim':=qBZ hlim
   have hlb':=qBZ hlb
   obtain ⟨i0,hi,hz0,hs0',hb0⟩:=hT.inf
   subst hb0
   obtain ⟨w',hr,ho,hk⟩:=qmW (P:=P) (w:=w) ht hi hz0 hs0' kl kc N (qB5 (qBN _ hN) hlb') (by grind [maxLen])
   have h1:=hf.ev hx
   have h2:=hf.ev hc
   have hyl:ys.length=N:=by grind
   have hzl:z.cells.toList.length=size:=by rw[← hy];exact henc.len y
   have hz:=h ys hq0 (some ⟨w.heap.size,0,none⟩) N
   rw[hyl] at hz
   refine ⟨_,w',?_,hz hm' _ _ (hf.put hd (.slice (some ⟨w.heap.size,0,none⟩) N N)) (hp.addRow hk ?_ ?_)⟩
   ·generalize a.eval=ε at h1 h2 ⊢
    simp[execOp,h1,h2,hr]
   ·show w'.ownsRow 0 e size _ ys.length (ys.flatMap enc)
    rw[hyl,← hq]
    simp only[qBo]
    rw[qnI hy,← qq1 hzl hs0 rfl]
    exact ho
   grind [Ro,Value.ownBlock]
  simp_all
theorem qyC {y:α}{q:γ}{k:List α→Option ρ}{c:Operand}{kl kc:IntKind}{i:Int}(henc:EncOk enc size)(hs0:size≠0)(hri:∀ f∈rin (y,q),f.v=.slice none 0 0∧f.n=0∧f.cs=[])(hw:wants ops l ⟨some d,.makeSlice t' x c,t,pos,af,gd⟩=some true)(ht:P.underlying t'=some (.slice e))(hT:TyF P e agg z size bytes)(hx:ev l x=some (.int kl i))(hc:ev l c=some (.int kc i))(hy:enc (y,q)=z.cells.toList)(hlim:Nat.ble lim 9223372036854775807=true)(hlb:Nat.ble (lim*bytes) 281474976710656=true)(hd:Nat.blt d n=true)(h:∀ ys,mk lim y i=some ys→∀ a c,SXO P ro n D M0 w0 Q ops rest ((d,.slice a ys.length c)::l) B (RoN enc rin e size (.slice a ys.length c) ys (qBj ys.length q) []::R) F (k ys) r) :
  SXO P ro n D M0 w0 Q ops (⟨some d,.makeSlice t' x c,t,pos,af,gd⟩::rest) l B R F ((mk lim y i).bind k) r:=by
 have hmk:(mk lim y i).bind k=(mk lim (y,q) i).bind (fun ps=>k (ps.map (·.1))):=by
  unfold mk
  split
  ·simp
  ·rfl
 rw[hmk]
 refine qs1 (enc:=enc) henc hs0 hw ht hT hx hc hy hlim hlb hd fun ps hps a0 c0=>?_
 have h1:mk lim y i=some (ps.map (·.1))∧ps=((ps.map (·.1)).zip (qBj (ps.map (·.1)).length q))∧∀ p∈ps,p=(y,q):=by
  unfold mk at hps ⊢
  split at hps
  ·rename_i hb
   simp only[qBs] at hps
   rw[if_pos hb,← hps]
   refine ⟨by simp,?_,fun p hp=>(List.mem_replicate.1 hp).2⟩
   rw[List.map_replicate,qBP,List.zip_replicate']
  ·simp at hps
 obtain ⟨h1,h2,h3⟩:=h1
 have h4:=h _ h1 a0 c0
 rw[qBJ] at h4
 intro hm a w hf hp
 refine h4 hm a w hf ?_
 have hp':Hp M0 w0 w B (Ro enc e size (.slice a0 ps.length c0) ((ps.map (·.1)).zip (qBj (ps.map (·.1)).length q))::R) F:=by rw[← h2];exact hp
 have:=hp'.nestNil (i:=0) (rin:=rin) rfl (by simp) (fun p hp f hf=>by
  rw[← h2] at hp
  rw[h3 p hp] at hf
  exact hri f hf)
 rw[qBJ] at this
 exact this
theorem qwT (α γ:Type)(enc:α×γ→List Value)(rin:α×γ→List RowF)(e:TypeId)(size:Nat)(h:SXO P ro n D M0 w0 Q ops rest l B (RoN enc rin e size (.slice none 0 0) ([]:List α) ([]:List γ) []::R) F m r):SXO P ro n D M0 w0 Q ops rest l B R F m r :=
 qfF (α×γ) enc e size fun hm a w hf hp=>h hm a w hf (hp.nestNil (i:=0) (xs:=[]) (gs:=[]) rfl rfl (by simp))
theorem nilN (α γ:Type)(enc:α×γ→List Value)(rin:α×γ→List RowF)(e:TypeId)(size:Nat)(hp:Hp M0 w0 w B R F):Hp M0 w0 w B (RoN enc rin e size (.slice none 0 0) ([]:List α) ([]:List γ) []::R) F :=
 (hp.addRow (r:=Ro enc e size (.slice none 0 0) (([]:List α).zip ([]:List γ))) (Keeps.refl _ _) ⟨by simp[Ro],.inl ⟨rfl,rfl⟩⟩ (by simp[Ro,Value.ownBlock])).nestNil (i:=0) (xs:=[]) (gs:=[]) rfl rfl (by simp)
theorem qwD {x:Code}(α γ:Type)(enc:α×γ→List Value)(rin:α×γ→List RowF)(e:TypeId)(size:Nat)(h:SXC P ro n D M0 w0 Q x l B (RoN enc rin e size (.slice none 0 0) ([]:List α) ([]:List γ) []::R) F m r):SXC P ro n D M0 w0 Q x l B R F m r :=
 fun hm a w hf hp=>h hm a w hf (nilN α γ enc rin e size hp)
theorem qwY {x:Exit}(α γ:Type)(enc:α×γ→List Value)(rin:α×γ→List RowF)(e:TypeId)(size:Nat)(h:SXQ n D M0 w0 Q x l B (RoN enc rin e size (.slice none 0 0) ([]:List α) ([]:List γ) []::R) F m r):SXQ n D M0 w0 Q x l B R F m r :=
 fun hm a w hf hp=>h hm a w hf (nilN α γ enc rin e size hp)
theorem qG {p:α×γ}{g e:Nat}(henc:EncOk enc size)(hy:(xs.zip gs)[i]?=some p)(ha:ao=some ⟨g,0,none⟩) :
  ∀ w,Cells (RoN enc rin e size (.slice ao xs.length c) xs gs hs).v (RoN enc rin e size (.slice ao xs.length c) xs gs hs).n (RoN enc rin e size (.slice ao xs.length c) xs gs hs).size (RoN enc rin e size (.slice ao xs.length c) xs gs hs).cs w→yZ g (i*size) (enc p) w:=by
 intro w h jj u hj
 obtain ⟨⟨ao',cap',hv',_,_,_,hc'⟩,_⟩:=(h:Cells (.slice ao xs.length c) xs.length size ((xs.zip gs).flatMap enc) w)
 have hv2:Value.slice ao xs.length c=.slice ao' xs.length cap':=hv'
 simp only[Value.slice.injEq] at hv2
 obtain ⟨rfl,-,-⟩:=hv2
 obtain ⟨ad',h3,h4⟩:=hc' (i*size+jj) u (yX henc _ i p jj u hy hj)
 simp_all
theorem qp1 {ys:List α}{ks:List γ}{k:List α→Option ρ}{s:Operand}{uo:Option Addr}{ca cu:Nat}{RS:List RowD}(henc:EncOk enc size)(hw:wants ops l ⟨some d,.call ⟨.builtin .append,#[s,x],#[t',t']⟩,t,pos,af,gd⟩=some true)(ht:P.underlying t'=some (.slice e))(hT:TyF P e agg z size bytes)(hzs:z.cells.size=size)(hd:Nat.blt d n=true)(hs:ev l s=some (.slice ao xs.length ca))(hx:ev l x=some (.slice uo ys.length cu))(hTk:Takes R [RoN enc rin e size (.slice ao xs.length ca) xs gs [],RoN enc rin e size (.slice uo ys.length cu) ys ks []] RS)(hlim:Nat.ble lim 9223372036854775807=true)(hlb:Nat.ble (lim*bytes) 140737488355328=true)(h:∀ zs,app lim xs ys=some zs→∀ a c,SXO P ro n D M0 w0 Q ops rest ((d,.slice a zs.length c)::l) B (RoN enc rin e size (.slice a zs.length c) zs (gs++ks) []::RS) F (k zs) r) :
  SXO P ro n D M0 w0 Q ops (⟨some d,.call ⟨.builtin .append,#[s,x],#[t',t']⟩,t,pos,af,gd⟩::rest) l B R F ((app lim xs ys).bind k) r:=by
 intro hm a w hf hp
 have hp0:=hp.perm (qBM _) hTk.perm
 obtain ⟨hl1,_⟩:=hp0.nestOk (i:=0) rfl
 obtain ⟨hl2,_⟩:=hp0.nestOk (i:=1) rfl
 have hp1:=hp0.unN (i:=0) rfl
 have hp2:=hp1.unN (i:=2) rfl
 have happ:(app lim xs ys).bind k=(app lim (xs.zip gs) (ys.zip ks)).bind (fun ps=>k (ps.map (·.1))):=by
  grind [app,qC0]
 rw[happ] at hm
 have hs':ev l s=some (.slice ao (xs.zip gs).length ca):=by simp_all
 have hx':ev l x=some (.slice uo (ys.zip ks).length cu):=by simp_all
 have hp3:Hp M0 w0 w B (Ro enc e size (.slice ao (xs.zip gs).length ca) (xs.zip gs)::Ro enc e size (.slice uo (ys.zip ks).length cu) (ys.zip ks)::InR rin (xs.zip gs) []::InR rin (ys.zip ks) []::RS) F:=by
  rw[qeO hl1,qeO hl2]
  refine hp2.perm (qBM _) ?_
  have p1:∀ (a2 b2 a1 b1:RowD) (S:List RowD),(a2::b2::a1::b1::S).Perm (a1::a2::b1::b2::S):=fun a2 b2 a1 b1 S =>
   (qCn (l₁:=[a2,b2]) (a:=a1) (l₂:=b1::S)).trans (qDS _ (qDS _ (qDR ..)))
  simp_all
 refine zo (R:=Ro enc e size (.slice ao (xs.zip gs).length ca) (xs.zip gs)::Ro enc e size (.slice uo (ys.zip ks).length cu) (ys.zip ks)::InR rin (xs.zip gs) []::InR rin (ys.zip ks) []::RS) (k:=fun ps=>k (ps.map (·.1))) 0 henc hw ht hT hzs hd hs' hx' rfl (.inl ⟨1,_,rfl⟩) hlim hlb (fun ps hps a0 c0=>?_) hm a w hf hp3
 intro hm' a' w' hf' hp'
 have hps':app lim xs ys=some (ps.map (·.1))∧ps=xs.zip gs++ys.zip ks:=by
  unfold app at hps ⊢
  rw[qeO hl1,qeO hl2] at hps
  split at hps
  ·rename_i hb
   simp only[qBs] at hps
   rw[if_pos hb,← hps,qC9,qC0 (by omega),qC0 (by omega)]
   simp
  simp_all
 obtain ⟨h1,h2⟩:=hps'
 have h4:=h _ h1 a0 c0
 rw[qBJ] at h4
 refine h4 hm' a' w' hf' ?_
 have hp4:Hp M0 w0 w' B (Ro enc e size (.slice a0 ps.length c0) ps::InR rin (xs.zip gs) []::InR rin (ys.zip ks) []::RS) F:=hp'.weaken (qBL _) ((List.sublist_cons_self _ _).cons_cons _) (fun _ h=>h)
 have hblk:((InR rin (xs.zip gs) []).blocks++(InR rin (ys.zip ks) []).blocks)=(InR rin ps []).blocks:=by
  grind [qis,qb8]
 have hp5:Hp M0 w0 w' B (Ro enc e size (.slice a0 ps.length c0) ps::InR rin ps []::RS) F:=by
  refine hp4.rowsP (fun r hr=>?_) ?_
  ·rcases qBp.1 hr with rfl | hr
   ·exact hp4.rows _ (qBv ..)
   ·rcases qBp.1 hr with rfl | hr
    ·refine ⟨⟨rfl,.inl ⟨rfl,rfl⟩⟩,fun f hf=>?_⟩
     have hf':f∈(outs [] 0 ps).flatMap rin:=hf
     rw[qb8,h2,qCQ] at hf'
     rcases qBn.1 hf' with hf' | hf'
     ·exact (hp4.rows (InR rin (xs.zip gs) []) (by simp)).2 f (by show f∈(outs [] 0 (xs.zip gs)).flatMap rin;rw[qb8];omega)
     ·exact (hp4.rows (InR rin (ys.zip ks) []) (by simp)).2 f (by show f∈(outs [] 0 (ys.zip ks)).flatMap rin;rw[qb8];omega)
    ·exact hp4.rows r (by grind)
  grind
 have h5:=hp5.reN (hs:=[]) List.nodup_nil
 grind [qDI]
def pkey (k0 k1:IntKind)(p:Int×Int):Value:=.agg #[.int k0 p.1,.int k1 p.2]
def ents (k0 k1:IntKind):Nat→List (Int×Int)→List MapEntry
 | _,[]=>[]
 | i,p::t=>{ key:=pkey k0 k1 p,val:=.agg #[],born:=i }::ents k0 k1 (i+1) t
def mapO (k0 k1:IntKind)(ks:List (Int×Int)):Obj:=.map (ents k0 k1 0 ks).toArray ks.length
theorem qmC (k0 k1:IntKind)(p:Int×Int):∀ (i:Nat) (ks:List (Int×Int)),ents k0 k1 i (ks++[p])=ents k0 k1 i ks++[{ key:=pkey k0 k1 p,val:=.agg #[],born:=i+ks.length }]
 | i,[]=>rfl
 | i,x::t=>by
  show _::ents k0 k1 (i+1) (t++[p])=_::(ents k0 k1 (i+1) t++_)
  rw[qmC k0 k1 p (i+1) t,List.length_cons,show i+1+t.length=i+(t.length+1) from by omega]
theorem qfE {r:Nat}{es:Array MapEntry}(h:w.heap[r]?=some (.map es c)):(getObj r).run P w=.ok (.map es c) w:=by
 simp[getObj,Sem.run,h]
theorem qkf {r:Nat}{o:Obj}{es:Array MapEntry}(h:w.heap[r]?=some (.map es c)):(setObj r o).run P w=.ok () (w.putObj r o):=by
 simp[setObj,Sem.run,h,World.putObj]
variable {k0 k1:IntKind}
theorem qh2 (hE:StE2 P t k0 k1)(em:Bool)(p:Int×Int):(Instr.checkKey em 10000 t (pkey k0 k1 p)).run P w=.ok () w:=by
 obtain ⟨f0,f1,hs,hst,hg,n0,n1,o0,o1,u0,u1⟩:=hE.out
 have c0:∀ n,(Instr.checkKey em (n+1) f0.type (.int k0 p.1)).run P w=.ok () w:=fun n=>by simp[Instr.checkKey,run_underlying u0]
 have c1:∀ n,(Instr.checkKey em (n+1) f1.type (.int k1 p.2)).run P w=.ok () w:=fun n=>by simp[Instr.checkKey,run_underlying u1]
 have p0:(part f0.type #[.int k0 p.1,.int k1 p.2] 0).run P w=.ok (.int k0 p.1) w:=qbT u0 rfl
 have p1:(part f1.type #[.int k0 p.1,.int k1 p.2] 1).run P w=.ok (.int k1 p.2) w:=qbT u1 rfl
 have h0:=c0 9998
 have h1:=c1 9998
 simp only[show (9998+1:Nat)=9999 from rfl] at h0 h1
 unfold pkey
 rw[Instr.checkKey]
 generalize Instr.checkKey em 9999=ck at h0 h1
 simp[run_underlying hs,n0,n1,o0,o1,p0,p1,h0,h1]
theorem qke (hE:StE2 P t k0 k1)(p:Int×Int):∀ (ks:List (Int×Int)) (i j:Nat),∃ r,(Instr.findAsking t (pkey k0 k1 p) (ents k0 k1 i ks) j).run P w=.ok r w∧((p∈ks∧∃ q,r=some (q,.agg #[]))∨(p∉ks∧r=none))
 | [],i,j=>⟨none,by rfl,.inr ⟨by simp,rfl⟩⟩
 | x::ks,i,j=>by
  obtain ⟨f0,f1,hs,hst,hg,n0,n1,o0,o1,u0,u1⟩:=hE.out
  have he:=qpe (w:=w) (a:=p.1) (b:=p.2) (c:=x.1) (d:=x.2) hs hst n0 n1 o0 o1 u0 u1
  obtain ⟨r,h1,h2⟩:=qke hE p ks (i+1) (j+1)
  have he':(Op.equal t (pkey k0 k1 p) (pkey k0 k1 x)).run P w=.ok ((p.1 == x.1) && (p.2 == x.2)) w:=he
  by_cases hpx:p=x
  ·subst hpx
   refine ⟨some (j,.agg #[]),?_,.inl ⟨by simp,_,rfl⟩⟩
   simp only[ents,Instr.findAsking,Sem.run_bind,he',Result.andThen_ok]
   simp
  ·have hf:((p.1 == x.1) && (p.2 == x.2))=false:=by
    grind
   refine ⟨r,?_,?_⟩
   ·simp only[ents,Instr.findAsking,Sem.run_bind,he',Result.andThen_ok,hf,qBy,if_false]
    omega
   simp_all
theorem qjd (hE:StE2 P t k0 k1)(p:Int×Int)(ks:List (Int×Int)):∃ r,(Instr.findKey t (pkey k0 k1 p) (ents k0 k1 0 ks)).run P w=.ok r w∧((p∈ks∧∃ q,r=some (q,.agg #[]))∨(p∉ks∧r=none)):=by
 obtain ⟨f0,f1,hs,_⟩:=hE.out
 cases ks with
 | nil=>exact ⟨none,by simp[Instr.findKey,run_underlying hs,ents,Instr.findNow],.inr ⟨by simp,rfl⟩⟩
 | cons x ks =>
  obtain ⟨r,h1,h2⟩:=qke (w:=w) hE p (x::ks) 0 0
  refine ⟨r,?_,h2⟩
  simp only[Instr.findKey,Sem.run_bind,run_underlying hs,Result.andThen_ok]
  grind [ents,Instr.findNow,Instr.sameNow]
variable {kt:TypeId}
theorem qp6 (hw:wants ops l ⟨some d,.makeMap t' none,t,pos,af,gd⟩=some true)(hd:Nat.blt d n=true)(h:∀ g,SXO P ro n D M0 w0 Q ops rest ((d,.map (some g))::l) (blkO g (mapO k0 k1 [])::B) R F m r):SXO P ro n D M0 w0 Q ops (⟨some d,.makeMap t' none,t,pos,af,gd⟩::rest) l B R F m r :=
 kS hw fun hm a w hf hp=>by
  refine ⟨.map (some w.heap.size),w.alloc (mapO k0 k1 []),?_,h _ hm _ _ (hf.put hd _) (hp.allocO _)⟩
  rfl
theorem qp5 {g:Nat}{p:Int×Int}{ks:List (Int×Int)}(hw:wants ops l ⟨some d,.lookup t' x ix true,t,pos,af,gd⟩=some true)(ht:P.underlying t'=some (.map kt e))(hE:StE2 P kt k0 k1)(hT:TyF P e agg (.agg #[]) size bytes)(hx:ev l x=some (.map (some g)))(hi:ev l ix=some (.agg #[.int k0 p.1,.int k1 p.2]))(hB:B[i]?=some (blkO g (mapO k0 k1 ks)))(hd:Nat.blt d n=true)(h:SXO P ro n D M0 w0 Q ops rest ((d,.tuple #[.agg #[],.bool (decide (p∈ks))])::l) B R F m r):SXO P ro n D M0 w0 Q ops (⟨some d,.lookup t' x ix true,t,pos,af,gd⟩::rest) l B R F m r :=
 qK _ hw rfl hd (fun a w hf hp=>by
  have h1:=hf.ev hx
  have h2:=hf.ev hi
  have hb:w.heap[g]?=some (.map (ents k0 k1 0 ks).toArray ks.length):=hp.blk _ (qBl hB)
  have hg:=qfE (P:=P) hb
  have hc:=qh2 (w:=w) hE (ents k0 k1 0 ks).toArray.isEmpty p
  obtain ⟨q,hq,hr⟩:=qjd (w:=w) hE p ks
  have hz:=hT.run_zero w
  generalize a.eval=ε at h1 h2 ⊢
  have hi':(Value.agg #[.int k0 p.1,.int k1 p.2])=pkey k0 k1 p:=rfl
  rw[hi'] at h2
  generalize hck:Instr.checkKey (ents k0 k1 0 ks).toArray.isEmpty 10000 kt (pkey k0 k1 p)=ck at hc
  generalize hzz:zeroValue e=zz at hz
  simp only[execOp,h1,h2,Instr.lookup,Sem.run_bind,run_underlying ht,Result.andThen_ok,hg,Sem.run_pure,hck,hc,hq]
  rcases hr with ⟨m1,q',rfl⟩ | ⟨m1,rfl⟩
  ·simp[m1]
  ·simp[m1,hzz,hz]) h
def sins (ks:List (Int×Int))(p:Int×Int):Option (List (Int×Int)):=if p∈ks then none else some (ks++[p])
theorem qrs {y:Operand}{g:Nat}{p:Int×Int}{ks:List (Int×Int)}{k:List (Int×Int)→Option ρ}(hw:wants ops l ⟨none,.mapUpdate t' x ix y,t,pos,af,gd⟩=some true)(ht:P.underlying t'=some (.map kt e))(hE:StE2 P kt k0 k1)(hx:ev l x=some (.map (some g)))(hi:ev l ix=some (.agg #[.int k0 p.1,.int k1 p.2]))(hy:ev l y=some (.agg #[]))(hB:B[i]?=some (blkO g (mapO k0 k1 ks)))(h:∀ ys,sins ks p=some ys→SXO P ro n D M0 w0 Q ops rest l (B.set i (blkO g (mapO k0 k1 ys))) R F (k ys) r):SXO P ro n D M0 w0 Q ops (⟨none,.mapUpdate t' x ix y,t,pos,af,gd⟩::rest) l B R F ((sins ks p).bind k) r:=by
 intro hm a w hf hp
 cases hq:sins ks p with
 | none=>simp_all
 | some ys =>
  rw[hq] at hm
  have hm':k ys=some r:=by grind
  have hq0:=hq
  unfold sins at hq
  split at hq
  ·grind
  ·rename_i hn
   simp only[qBs] at hq
   have h1:=hf.ev hx
   have h2:=hf.ev hi
   have h3:=hf.ev hy
   have hb:w.heap[g]?=some (.map (ents k0 k1 0 ks).toArray ks.length):=hp.blk _ (qBl hB)
   have hg:=qfE (P:=P) hb
   have hc:=qh2 (w:=w) hE false p
   obtain ⟨q,hfk,hr⟩:=qjd (w:=w) hE p ks
   have hq':q=none:=by
    simp_all
   subst hq'
   have hset:=qkf (P:=P) (o:=mapO k0 k1 ys) hb
   have hi':(Value.agg #[.int k0 p.1,.int k1 p.2])=pkey k0 k1 p:=rfl
   rw[hi'] at h2
   have hobj:Obj.map (ents k0 k1 0 ks++[({ key:=pkey k0 k1 p,val:=.agg #[],born:=ks.length }:MapEntry)]).toArray (ks.length+1)=mapO k0 k1 ys:=by
    rw[← hq]
    unfold mapO
    rw[qmC,qBr,qB9]
    simp
   have hrun:(execOp a.eval ⟨none,.mapUpdate t' x ix y,t,pos,af,gd⟩).run P w=.ok .skip (w.putObj g (mapO k0 k1 ys)):=by
    generalize a.eval=ε at h1 h2 h3 ⊢
    generalize hck:Instr.checkKey false 10000 kt (pkey k0 k1 p)=ck at hc
    simp only[execOp,h1,h2,h3,Instr.mapUpdate,Sem.run_bind,run_underlying ht,Result.andThen_ok,hg,mapO,hck,hc,hfk]
    simp only[mapO] at hobj hset
    simp_all
   exact qeL (zg hf hw) (yN hw) hrun (h _ hq0 hm' _ _ hf (hp.setObj hB _))
theorem qkt (bs:ByteArray):bs.data.toList.length=bs.size:=by rw[Array.length_toList];rfl
theorem qrP (bs:ByteArray):∀ (k i:Nat) (r:List UInt8),i+k=bs.size→ByteArray.toList.loop bs i r=r.reverse++bs.data.toList.drop i
 | 0,i,r,h=>by
  rw[ByteArray.toList.loop.eq_1,if_neg (by omega),List.drop_eq_nil_of_le (by rw[qkt];omega),qBV]
 | k+1,i,r,h=>by
  rw[ByteArray.toList.loop.eq_1,if_pos (by omega),qrP bs k (i+1) _ (by omega)]
  have hi:i<bs.data.toList.length:=by rw[qkt];omega
  have hg:bs.get! i=bs.data.toList[i]:=by
   have hi2:i<bs.data.size:=by simpa using hi
   show bs.data[i]! = _
   rw[getElem!_pos bs.data i hi2,Array.getElem_toList]
  rw[List.drop_eq_getElem_cons hi,List.reverse_cons,qBt,hg]
  rfl
theorem qmt (bs:ByteArray):bs.toList=bs.data.toList:=by
 show ByteArray.toList.loop bs 0 []=_
 rw[qrP bs bs.size 0 [] (by omega)]
 simp
theorem qqv (a b:ByteArray):(a.toList == b.toList)=(a == b):=by
 rw[qmt,qmt]
 obtain ⟨x⟩:=a
 obtain ⟨y⟩:=b
 show (x.toList == y.toList)=(x == y)
 by_cases h:x=y
 ·subst h;simp
 ·rw[beq_eq_false_iff_ne.2 h,beq_eq_false_iff_ne.2 (fun e=>h (Array.toList_inj.1 e))]
theorem qkv (k:IntKind):∀ xs:List Int,xs.flatMap (eI k)=xs.map (Value.int k)
 | []=>rfl
 | x::t=>by rw[qBG,qkv k t];rfl
def bstr (xs:List Int):ByteArray:=xs.foldl (fun r n=>r.push (UInt8.ofNat n.toNat)) ByteArray.empty
theorem qt8 {s t1 e1:TypeId}{xs:List Int}(hw:wants ops l ⟨some d,.convert s t1 x,t,pos,af,gd⟩=some true)(hs:P.underlying s=some (.slice e1))(he:P.underlying e1=some (.int .u8))(ht:P.underlying t1=some .string)(hx:ev l x=some v)(hF:F[j]?=some (Sl (eI .u8) 1 v xs))(hd:Nat.blt d n=true)(h:SXO P ro n D M0 w0 Q ops rest ((d,.string (bstr xs))::l) B R F m r):SXO P ro n D M0 w0 Q ops (⟨some d,.convert s t1 x,t,pos,af,gd⟩::rest) l B R F m r :=
 qK _ hw rfl hd (fun a w hf hp=>by
  have h1:=hf.ev hx
  have hc:Cells v xs.length 1 (xs.flatMap (eI .u8)) w:=(hp.per _ (qBl hF)).here
  have hfl:xs.flatMap (eI .u8)=xs.map (Value.int .u8):=qkv _ _
  have hfc:=jJ (P:=P) hc
  obtain ⟨⟨ao,cap,rfl,_,_,hsp,hcc⟩,hl⟩:=hc
  generalize a.eval=ε at h1 ⊢
  have hr:=run_convert_bytes_string w s t1 e1 ao xs.length cap hs he ht
  cases ao with
  | none =>
   have:xs=[]:=by
    cases xs with
    | nil=>rfl
    | cons y ys=>obtain ⟨ad,h0,_⟩:=hcc 0 _ rfl;simp at h0
   subst this
   simp only[execOp,h1,Sem.run_bind,hr,Conv.bytesToString]
   rfl
  | some ad =>
   have hld:(loadCells ad xs.length).run P w=.ok (xs.map (Value.int .u8)).toArray w:=by
    rw[← hfl]
    simpa[Builtin.firstCells] using hfc
   have hb:=run_bytesToString (P:=P) w ad xs.length cap xs hld
   simp only[execOp,h1,Sem.run_bind,hr,hb]
   rfl) h
theorem qwS {y:Operand}{a b:ByteArray}(hw:wants ops l ⟨some d,.binOp .neq xt x y yt,t,pos,af,gd⟩=some true)(_hu:P.underlying xt=some .string)(hx:ev l x=some (.string a))(hy:ev l y=some (.string b))(hd:Nat.blt d n=true)(h:SXO P ro n D M0 w0 Q ops rest ((d,.bool (!(a == b)))::l) B R F m r):SXO P ro n D M0 w0 Q ops (⟨some d,.binOp .neq xt x y yt,t,pos,af,gd⟩::rest) l B R F m r :=
 qK _ hw rfl hd (fun ac w hf _=>by
  have h1:=hf.ev hx
  have h2:=hf.ev hy
  generalize ac.eval=ε at h1 h2 ⊢
  simp[execOp,h1,h2,eqGuard,binOp,Op.stringOp,go_sem,← qqv]) h
theorem qwM {y:Operand}{a b:ByteArray}(hw:wants ops l ⟨some d,.binOp .eql xt x y yt,t,pos,af,gd⟩=some true)(_hu:P.underlying xt=some .string)(hx:ev l x=some (.string a))(hy:ev l y=some (.string b))(hd:Nat.blt d n=true)(h:SXO P ro n D M0 w0 Q ops rest ((d,.bool (a == b))::l) B R F m r):SXO P ro n D M0 w0 Q ops (⟨some d,.binOp .eql xt x y yt,t,pos,af,gd⟩::rest) l B R F m r :=
 qK _ hw rfl hd (fun ac w hf _=>by
  have h1:=hf.ev hx
  have h2:=hf.ev hy
  generalize ac.eval=ε at h1 h2 ⊢
  simp[execOp,h1,h2,eqGuard,binOp,Op.stringOp,go_sem,← qqv]) h
theorem qmp {xs:Array Operand}{vs:List Value}(hw:wants ops l ⟨some d,.makeFunc (.func f) xs #[],t,pos,af,gd⟩=some true)(hx:evArgs l xs.toList=some vs)(hd:Nat.blt d n=true)(h:SXO P ro n D M0 w0 Q ops rest ((d,.func (.func f) vs.toArray #[])::l) B R F m r):SXO P ro n D M0 w0 Q ops (⟨some d,.makeFunc (.func f) xs #[],t,pos,af,gd⟩::rest) l B R F m r :=
 qK _ hw rfl hd (fun a w hf _=>by
  have h2:=hf.evArgs hx
  have h3:xs.map a.eval=vs.toArray:=by rw[← h2,← Array.toList_map,Array.toArray_toList]
  generalize a.eval=ε at h3 ⊢
  simp[execOp,Instr.makeFunc,h3]) h
theorem qtS {a:Act}{x0:Operand}{xs:Array Operand}{tys:Array TypeId}{vs bs:List Value}{dst:Option Tmp}(hf:Fr n D a l)(he:Enters P f)(h0:ev l x0=some (.func (.func f) bs.toArray #[]))(hx:evArgs l xs.toList=some vs) :
  (execOp a.eval ⟨dst,.call ⟨.value x0,xs,tys⟩,t,pos,af,gd⟩).run P w=.ok (.enter f (bs++vs).toArray) w:=by
 have h1:=hf.ev h0
 have h2:=hf.evArgs hx
 have h3:xs.map a.eval=vs.toArray:=by rw[← h2,← Array.toList_map,Array.toArray_toList]
 have h4:=he (bs++vs).toArray w
 have h5:(bs++vs).toArray=bs.toArray++vs.toArray:=by simp
 generalize a.eval=ε at h1 h3 ⊢
 rw[h5] at h4 ⊢
 simp only[List.append_toArray] at h4
 simp[execOp,resolve,h1,h3,Deferred.ofValue,invoke,h4]
theorem jK {mg:Option α}{k:α→Option ρ}{x0:Operand}{xs:Array Operand}{tys:Array TypeId}{vs bs:List Value}{V:α→γ→Value}{B0 BS:List BlkD}{R0 RS:List RowD}{B1:α→γ→List BlkD}{R1:α→γ→List RowD}(he:Enters P f)(h0:ev l x0=some (.func (.func f) bs.toArray #[]))(hw:wants ops l ⟨some d,.call ⟨.value x0,xs,tys⟩,t,pos,af,gd⟩=some true)(hx:evArgs l xs.toList=some vs)(hd:Nat.blt d n=true)(hC:∀ y,mg=some y→PureM P f (bs++vs) B0 R0 Φ γ (V y) (B1 y) (R1 y))(hB:Takes B B0 BS)(hR:Takes R R0 RS)(ha:ArgsM RS F Φ)(h:∀ y,mg=some y→∀ g,SXO P ro n D M0 w0 Q ops rest ((d,V y g)::l) (B1 y g++BS) (R1 y g++RS) F (k y) r) :
  SXO P ro n D M0 w0 Q ops (⟨some d,.call ⟨.value x0,xs,tys⟩,t,pos,af,gd⟩::rest) l B R F (mg.bind k) r:=by
 intro hm a w hf hp
 cases hq:mg with
 | none=>rw[hq] at hm;simp at hm
 | some y =>
  rw[hq] at hm
  have hm':k y=some r:=by simpa using hm
  have hp':=hp.perm hB.perm hR.perm
  refine qdd (zg hf hw) (yN hw) (qtS hf he h0 hx) ((hC y hq w (hp'.startM (ha.ok hp'))).mono fun e w' ⟨g,h1,h2⟩=>⟨V y g,h1,?_⟩)
  exact h y hq g hm' _ _ (hf.put hd _) (hp'.callM h2)
def entF (k:IntKind):Nat→List (Int×Value)→List MapEntry
 | _,[]=>[]
 | i,p::t=>{ key:=.int k p.1,val:=p.2,born:=i }::entF k (i+1) t
def mapF (k:IntKind)(es:List (Int×Value)):Obj:=.map (entF k 0 es).toArray es.length
def lookF (x:Int):List (Int×Value)→Option Value
 | []=>none
 | p::t=>if x=p.1 then some p.2 else lookF x t
end SX
