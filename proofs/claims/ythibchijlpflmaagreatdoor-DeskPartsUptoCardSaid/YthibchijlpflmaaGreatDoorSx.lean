/- A layer of rules for walking Go code: what a frame's slots hold, what blocks and rows of the heap hold; each rule speaks of a plain model's value: part 2. -/
import Derived.Test.YthibchijlpflmaaGreatDoorSw
import Derived.RangeFuncLeaves
import Derived.RangeFuncRecord
import Derived.RangeFuncSeq
import Derived.OrdersIn
import Derived.Defers
import Derived.Recover
import Derived.Tactics
import Derived.Tactics2
import Derived.Laws.Pointers
import Derived.ProofKit
import Derived.Shelf.Sort.Plain
import Derived.Shelf.Slices.CompactI
import Derived.Laws.StructEq
open Bool renaming false_eq_true→qCF, and_eq_true→qC2, not_true→qDl
open Int renaming eq_ofNat_of_zero_le→qCp, toNat_natCast→qCs, le_trans→qEZ
open List renaming getElem?_eq_getElem→qCn, replicate→qCo, mem_of_getElem?→qCq, mem_append→qCr, length_append→qCt, mem_cons→qCu, append_assoc→qCv, getElem?_eq_some_iff→qCx, flatMap_cons→qCz, length_take→qCA, mem_cons_self→qCC, mem_cons_of_mem→qCD, mem_singleton→qCI, length_set→qCJ, getElem?_take_of_lt→qCK, nil_append→qCM, length_drop→qCP, flatMap_append→qCQ, mem_map→qCV, length_map→qCX, drop_zero→qCY, take_of_length_le→qCZ, append_nil→qC0, length_replicate→qC3, map_cons→qC5, getElem?_eq_none→qC7, all_eq_true→qC9, nodup_append→qDa, ext_getElem?→qDb, ext_getElem→qDe, perm_middle→qDi, size_toArray→qDj, replicate_succ→qDp, mem_flatMap→qDq, getElem?_drop→qDs, cons_append→qDt, perm_append_comm→qDu, getElem?_map→qDv, nodup_cons→qDw, getElem?_set→qDB, map_append→qDD, length_eq_zero_iff→qDF, take_left→qDJ, zipIdx_cons→qDT, take_left'→qD0, map_fst_zip→qD8, set_cons_succ→qEd, getElem?_zip_eq_some→qEp, zip_cons_cons→qEt, map_snd_zip→qEA, getElem?_toArray→qEF, filterMap_append→qEG, take_take→qEN, flatten_cons→qEX, mapM_cons→qFb
open List.Perm renaming refl→qCU, append_left→qDK, append_right→qDX, cons→qEO, swap→qFc
open List.Sublist renaming refl→qCS
open Nat renaming le_refl→qCE, mul_le_mul_right→qCR, zero_le→qCT, le_trans→qDf, zero_add→qDg, le_of_ble_eq_true→qDh, mul_one→qDn, min_eq_left→qEe
open Option renaming map_some→qDk
open Option.some renaming injEq→qCy
namespace SX
open Go
set_option linter.unusedSectionVars false
variable [DM]
def PureM (P:Program)(f:FuncId)(vs:List Value)(B0:List BlkD)(R0:List RowD)(Φ:List (World→Prop))(γ:Type)(V:γ→Value)(B1:γ→List BlkD)(R1:γ→List RowD):Prop :=
 ∀ w,Hp (muts B0 R0) w w B0 R0 Φ→Calls P f vs.toArray w fun e w'=>∃ g:γ,e=.returned (V g)∧Hp (muts B0 R0) w w' (B1 g) (R1 g) []
theorem qgX {B1 B2:List BlkD}{R1 R2:List RowD}:(muts (B1++B2) (R1++R2)).Perm (muts B1 R1++muts B2 R2):=by
 unfold muts
 simp only[qDD,qCQ]
 rw[qCv,qCv]
 refine qDK _ ?_
 rw[← qCv,← qCv]
 exact qDX _ qDu
inductive Takes {α:Type}:List α→List α→List α→Prop
 | nil {R:List α}:Takes R [] R
 | cons {R R' S:List α} {r:α} (i:Nat) (h:R[i]?=some r) (hp:Takes (R.eraseIdx i) R' S):Takes R (r::R') S
variable {a:Act}{tys:Array TypeId}{args cap first:Array Value}{agg:Bool}{fn:Func}{f:FuncId}{Φ:List (World→Prop)}{B' B0 BS:List BlkD}{ch:List PanicEntry}{R0 RS:List RowD}{vs:List Value}{N bytes c d fuel i j:Nat}{o oi:Oper}{x x0 y:Operand}{ao:Option Addr}{dst:Option Tmp}{α σ:Type}{T t' xt:TypeId}{z:Value}{xs:List α}{BL:σ→List BlkD}
theorem Takes.perm {R R' S:List α}(h:Takes R R' S):R.Perm (R'++S):=by
 induction h with
 | nil=>exact qCU _
 | cons i h _ ih =>
  obtain ⟨R1,R2,rfl,he⟩:=qeQ h
  rw[he] at ih
  exact qDi.trans (qEO _ ih)
theorem Hp.perm {M0 : List Nat}{w0 w : World}{B:List BlkD}{R R' : List RowD}{F : List (World → Prop)}(h : Hp M0 w0 w B R F)(hB : B.Perm B')(hR : R.Perm R') : Hp M0 w0 w B' R' F := by
  have hp : (muts B R).Perm (muts B' R') := (hB.map _).append (hR.flatMap_right _)
  exact { keep := h.keep, blk := fun b hb => h.blk b (hB.mem_iff.2 hb), rows := fun r hr => h.rows r (hR.mem_iff.2 hr), nodup := hp.nodup_iff.1 h.nodup,
          fresh := fun g hg => h.fresh g (hp.mem_iff.2 hg), per := fun φ hφ => (h.per φ hφ).less fun k hk => hp.mem_iff.2 hk }
theorem Hp.callM {M0:List Nat}{w0 w w':World}{B1:List BlkD}{R1:List RowD}{F:List (World→Prop)}(h:Hp M0 w0 w (B0++BS) (R0++RS) F)(hr:Hp (muts B0 R0) w w' B1 R1 []):Hp M0 w0 w' (B1++BS) (R1++RS) F:=by
 have hm:=qgX (B1:=B0) (B2:=BS) (R1:=R0) (R2:=RS)
 have hm1:=qgX (B1:=B1) (B2:=BS) (R1:=R1) (R2:=RS)
 have hnd:=hm.nodup_iff.1 h.nodup
 have hdis:∀ k∈muts BS RS,k∉muts B0 R0:=fun k hk hk'=>(qDa.1 hnd).2.2 k hk' k hk rfl
 refine h.turn (muts B0 R0) hr.keep (fun k hk=>hm.mem_iff.2 (qCr.2 (.inl hk))) (fun b hb=>?_) (fun r0 h0=>?_) ?_ ?_
 ·rcases qCr.1 hb with hb | hb
  ·exact hr.blk b hb
  ·exact qb9 (h.blk b (qCr.2 (.inr hb))) hr.keep (hdis _ (qCr.2 (.inl (qCV.2 ⟨b,hb,rfl⟩))))
 ·rcases qCr.1 h0 with h0 | h0
  ·exact hr.rows r0 h0
  ·exact jk (h.rows r0 (qCr.2 (.inr h0))) hr.keep fun g hg=>hdis _ (qCr.2 (.inr (qDq.2 ⟨r0,h0,hg⟩)))
 ·refine hm1.nodup_iff.2 (qDa.2 ⟨hr.nodup,(qDa.1 hnd).2.1,fun a ha b hb hab=>?_⟩)
  subst hab
  rcases hr.fresh a ha with h1 | h1
  ·exact hdis a hb h1
  ·have:=h.lt a (hm.mem_iff.2 (qCr.2 (.inr hb)));omega
 ·intro g hg
  rcases qCr.1 (hm1.mem_iff.1 hg) with h2 | h2
  ·rcases hr.fresh g h2 with h3 | h3
   ·exact .inl (hm.mem_iff.2 (qCr.2 (.inl h3)))
   ·exact .inr h3
  ·exact .inl (hm.mem_iff.2 (qCr.2 (.inr h2)))
inductive ArgsM (R:List RowD) (F:List (World→Prop)):List (World→Prop)→Prop
 | nil:ArgsM R F []
 | consF {φ:World→Prop} {Φ:List (World→Prop)} (j:Nat) (h:F[j]?=some φ) (ha:ArgsM R F Φ):ArgsM R F (φ::Φ)
 | consR {Φ:List (World→Prop)} (j:Nat) (rd:RowD) (h:R[j]?=some rd) (ha:ArgsM R F Φ):ArgsM R F (Cells rd.v rd.n rd.size rd.cs::Φ)
 | consG {φ:World→Prop} {Φ:List (World→Prop)} (j:Nat) {rd:RowD} (h:R[j]?=some rd) (hφ:∀ w,rd.owns w→φ w) (ha:ArgsM R F Φ):ArgsM R F (φ::Φ)
theorem ArgsM.ok {M0:List Nat}{w0 w:World}{F:List (World→Prop)}(ha:ArgsM RS F Φ)(hp:Hp M0 w0 w (B0++BS) (R0++RS) F):∀ φ∈Φ,Nec w (muts B0 R0) φ:=by
 have hm:=qgX (B1:=B0) (B2:=BS) (R1:=R0) (R2:=RS)
 have hnd:=hm.nodup_iff.1 hp.nodup
 induction ha with
 | nil=>intro φ h;simp at h
 | consF j h _ ih =>
  intro φ hφ
  rcases qCu.1 hφ with rfl | hφ
  ·exact (hp.per _ (qCq h)).less fun k hk=>hm.mem_iff.2 (qCr.2 (.inl hk))
  ·exact ih φ hφ
 | consR j rd h _ ih =>
  intro φ hφ
  rcases qCu.1 hφ with rfl | hφ
  ·intro w' hk
   have hrd:=qCq h
   refine Cells.keeps (zr (hp.row _ (qCr.2 (.inr hrd)))) hk fun g hg hgm=>?_
   exact (qDa.1 hnd).2.2 g hgm g (qCr.2 (.inr (qDq.2 ⟨rd,hrd,RowD.blocks_v hg⟩))) rfl
  ·exact ih φ hφ
 | @consG _ _ j rd h hg _ ih =>
  intro φ hφ
  rcases qCu.1 hφ with rfl | hφ
  ·intro w' hk
   have hrd:=qCq h
   refine hg w' (jk (hp.rows _ (qCr.2 (.inr hrd))) hk fun g hg' hgm=>?_)
   exact (qDa.1 hnd).2.2 g hgm g (qCr.2 (.inr (qDq.2 ⟨rd,hrd,hg'⟩))) rfl
  ·exact ih φ hφ
theorem Hp.startM {M0:List Nat}{w0 w:World}{F:List (World→Prop)}(hp:Hp M0 w0 w (B0++BS) (R0++RS) F)(h:∀ φ∈Φ,Nec w (muts B0 R0) φ):Hp (muts B0 R0) w w B0 R0 Φ where
 keep:=Keeps.refl _ _
 blk:=fun b hb=>hp.blk b (qCr.2 (.inl hb))
 rows:=fun r hr=>hp.rows r (qCr.2 (.inl hr))
 nodup:=(qDa.1 (qgX.nodup_iff.1 hp.nodup)).1
 fresh:=fun _ hg=>.inl hg
 per:=h
variable {P:Program}{ro:Option Nat}{n:Nat}{D:List Deferred}{M0:List Nat}{w0:World}{Q:Exit→Act→World→Prop}{ρ:Type}
variable {ops:Array Oper}{rest:List Oper}{l:Env}{B:List BlkD}{R:List RowD}{F:List (World→Prop)}{m:Option ρ}{r:ρ}
variable {t:TypeId}{pos:String}{af:Array Edge}{gd:Option (Nat×Bool)}
theorem qc6 {γ:Type}{mg:Option α}{k:α→Option ρ}{xs:Array Operand}{V:α→γ→Value}{B1:α→γ→List BlkD}{R1:α→γ→List RowD}(he:Enters P f)(hw:wants ops l ⟨some d,.call ⟨.value (.func f),xs,tys⟩,t,pos,af,gd⟩=some true)(hx:evArgs l xs.toList=some vs)(hd:Nat.blt d n=true)(hC:∀ y,mg=some y→PureM P f vs B0 R0 Φ γ (V y) (B1 y) (R1 y))(hB:Takes B B0 BS)(hR:Takes R R0 RS)(ha:ArgsM RS F Φ)(h:∀ y,mg=some y→∀ g,SXO P ro n D M0 w0 Q ops rest ((d,V y g)::l) (B1 y g++BS) (R1 y g++RS) F (k y) r) :
  SXO P ro n D M0 w0 Q ops (⟨some d,.call ⟨.value (.func f),xs,tys⟩,t,pos,af,gd⟩::rest) l B R F (mg.bind k) r:=by
 intro hm a w hf hp
 cases hq:mg with
 | none=>rw[hq] at hm;simp at hm
 | some y =>
  rw[hq] at hm
  have hm':k y=some r:=by simpa using hm
  have hp':=hp.perm hB.perm hR.perm
  refine qdJ (zu hf hw) (yV hw) (ql4 hf he hx) ((hC y hq w (hp'.startM (ha.ok hp'))).mono fun e w' ⟨g,h1,h2⟩=>⟨V y g,h1,?_⟩)
  exact h y hq g hm' _ _ (hf.put hd _) (hp'.callM h2)
theorem qjH {c:Code}{γ:Type}{V:γ→Value}{B1:γ→List BlkD}{R1:γ→List RowD}(hfn:P.funcs[f]?=some fn)(hb:fn.body=some c)(hn:fn.ntmps=N)(hvl:Nat.ble vs.length N=true)(hm:m=some r)(h:∀ w,SXC P none N [] (muts B0 R0) w (bodyPost P fn fun e w'=>∃ g:γ,e=.returned (V g)∧Hp (muts B0 R0) w w' (B1 g) (R1 g) []) c (vs.zipIdx.map fun p=>(p.2,p.1)) B0 R0 Φ m r):PureM P f vs B0 R0 Φ γ V B1 R1:=by
 intro w hp
 refine calls_of_wp hfn hb (qhR.1 (h w hm _ w ?_ hp))
 have hvl':vs.length≤N:=by simpa using hvl
 refine ⟨rfl,by simp[hn];omega,fun i v hv=>?_⟩
 have key:∀ (vs:List Value) (k i:Nat) (v:Value),look ((vs.zipIdx k).map fun p=>(p.2,p.1)) i=some v→k≤i∧vs[i-k]?=some v:=by
  intro vs
  induction vs with
  | nil=>intro k i v hv;simp[look] at hv
  | cons u vs ih =>
   intro k i v hv
   simp only[qDT,qC5] at hv
   rw[qal] at hv
   split at hv
   ·rename_i he;subst he;simpa using hv
   ·obtain ⟨h1,h2⟩:=ih (k+1) i v hv
    refine ⟨by omega,?_⟩
    rw[show i-k=(i-(k+1))+1 from by omega]
    simpa using h2
 obtain ⟨_,h2⟩:=key vs 0 i v hv
 have hlt:=(qCx.1 h2).1
 rw[Array.getElem?_append_left (by simpa using hlt)]
 simpa using h2
theorem yD {γ:Type}{V:γ→Value}{B1:γ→List BlkD}{R1:γ→List RowD}{w:World}{x:ρ}{e:Exit}(g:γ){v:Value}(hres:∀ a w',Fr n [] a l→Hp M0 w w' B R F→(results fn a.tmps).run P w'=.ok v w')(hB:x=r→Pick B (B1 g):=by intro h;subst h;exact .nil)(hR:x=r→Pick R (R1 g):=by intro h;subst h;exact .nil)(hv:x=r→v=V g:=by intro h;subst h;rfl)(he:e=.ret∨e=.normal:=by first | exact .inl rfl | exact .inr rfl) :
  SXQ n [] M0 w (bodyPost P fn fun e w'=>∃ g:γ,e=.returned (V g)∧Hp M0 w w' (B1 g) (R1 g) []) e l B R F (some x) r:=by
 intro hm a w' hf hp
 have hx:x=r:=by simpa using hm
 have:∃ v,(results fn a.tmps).run P w'=.ok v w'∧∃ g:γ,Ending.returned v=.returned (V g)∧Hp M0 w w' (B1 g) (R1 g) [] :=
  ⟨v,hres a w' hf hp,g,by rw[hv hx],hp.pick (hB hx) (hR hx) (by simp)⟩
 rcases he with rfl | rfl
 ·exact ⟨hf.defers,this⟩
 ·exact ⟨hf.defers,this⟩
inductive ResOk (P:Program) (l:Env) (B:List BlkD):List ResultVar→List Value→Prop
 | nil:ResOk P l B [] []
 | tmp {t:Tmp} {v:Value} {rs:List ResultVar} {vs:List Value} (h:look l t=some v) (hr:ResOk P l B rs vs):ResOk P l B (.tmp t::rs) (v::vs)
 | cell {t:Tmp} {ty e:TypeId} {agg:Bool} {z:Value} {size bytes i g o:Nat} {cs:List Value} {V:Value} {rs:List ResultVar} {vs:List Value} (hx:look l t=some (.pointer (some ⟨g,o,none⟩))) (hT:TyF P ty agg z size bytes)
   (hB:B[i]?=some ⟨g,e,cs⟩) (hl:((cs.drop o).take size).length=size) (hs:agg=false→size=1) (hV:(if agg then .agg ((cs.drop o).take size).toArray else ((cs.drop o).take size).getD 0 undef)=V)
   (hr:ResOk P l B rs vs):ResOk P l B (.cell t ty::rs) (V::vs)
theorem quM {rs:List ResultVar}(h:ResOk P l B rs vs){w:World}(hf:Fr n D a l)(hb:∀ b∈B,b.is w) :
  (rs.mapM (fun | .tmp t=>pure (a.tmps.getD t undef) | .cell x t=>do loadVar t (← asAddr (a.tmps.getD x undef))):Sem (List Value)).run P w=.ok vs w:=by
 induction h with
 | nil=>rfl
 | @tmp t v rs vs h _ ih =>
  have e1:=hf.val _ _ h
  simp only[qFb]
  generalize (rs.mapM (fun | .tmp t=>pure (a.tmps.getD t undef) | .cell x t=>do loadVar t (← asAddr (a.tmps.getD x undef))):Sem (List Value))=q at ih
  simp[Array.getD_eq_getD_getElem?,e1,ih]
 | @cell t ty e agg z size bytes i g o cs V rs vs hx hT hB hl hs hV _ ih =>
  have e1:=hf.val _ _ hx
  have hb1:=hb _ (qCq hB)
  have hc:yG g o ((cs.drop o).take size) w:=by
   intro j u hj
   have hlt:j<size:=by have:=(qCx.1 hj).1;simp at this;omega
   rw[qCK hlt,qDs] at hj
   have hb':w.heap[g]?=some (.cells cs.toArray e (0,0)):=hb1
   simp[World.cell?,hb',hj]
  have hr:=qat hT hc hl hV.symm hs
  simp only[qFb]
  generalize (rs.mapM (fun | .tmp t=>pure (a.tmps.getD t undef) | .cell x t=>do loadVar t (← asAddr (a.tmps.getD x undef))):Sem (List Value))=q at ih
  simp[Array.getD_eq_getD_getElem?,e1,asAddr,hr,ih]
theorem resL {rs:List ResultVar}(hfn:fn.results=rs.toArray)(h:ResOk P l B rs vs){w:World}{v:Value}(hv:(match vs with | [v]=>v | _=>.tuple vs.toArray)=v):∀ a w',Fr n [] a l→Hp M0 w w' B R F→(results fn a.tmps).run P w'=.ok v w':=by
 intro a w' hf hp
 have hr:=quM h hf hp.blk
 have key:results fn a.tmps=(do
   let vs ← (Functor.map List.toArray (rs.mapM (fun | .tmp t=>pure (a.tmps.getD t undef) | .cell x t=>do loadVar t (← asAddr (a.tmps.getD x undef))):Sem (List Value)):Sem (Array Value))
   pure (if h:vs.size=1 then vs[0] else .tuple vs)):=by
  unfold results
  rw[hfn,Array.mapM_eq_mapM_toList]
  rfl
 rw[key]
 subst hv
 generalize (rs.mapM (fun | .tmp t=>pure (a.tmps.getD t undef) | .cell x t=>do loadVar t (← asAddr (a.tmps.getD x undef))):Sem (List Value))=q at hr
 simp only[map_eq_pure_bind,bind_assoc,pure_bind]
 simp[hr]
 match vs with
 | []=>rfl
 | [v]=>rfl
 | v::u::r=>simp
def lbnd {α σ ρ:Type}(m:Option (α ⊕ σ))(k:α→Option ρ)(kl:σ→Option ρ):Option ρ:=m.bind fun x=>match x with | .inl y=>k y | .inr z=>kl z
def PostL (ch:List PanicEntry)(M:List Nat)(w:World){α σ γ:Type}(V:α→γ→Value)(B1:α→γ→List BlkD)(R1:α→γ→List RowD)(BL:σ→List BlkD):α ⊕ σ→Ending→World→Prop
 | .inl y,e,w'=>∃ g:γ,e=.returned (V y g)∧Hp M w w' (B1 y g) (R1 y g) []
 | .inr z,e,w'=>e=.panicked ch∧Hp M w w' (BL z) [] []
def PureL (P:Program)(f:FuncId)(vs:List Value)(B0:List BlkD)(R0:List RowD)(Φ:List (World→Prop))(ch:List PanicEntry){α σ:Type}(γ:Type)(V:α→γ→Value)(B1:α→γ→List BlkD)(R1:α→γ→List RowD)(BL:σ→List BlkD)(r:α ⊕ σ):Prop :=
 ∀ w,Hp (muts B0 R0) w w B0 R0 Φ→Calls P f vs.toArray w (PostL ch (muts B0 R0) w V B1 R1 BL r)
theorem qmO {w:World}(hw:Region.wanted o (yielded ops a.tmps)=true)(hc:∀ c,o.op≠.defer c)(hr:(execOp a.eval o).run P w=.ok (.enter f args) w)(h:Calls P f args w fun e w'=>match e with
   | .returned v=>kC ro P ops Q rest (a.put o.dst v) w'
   | .panicked chain=>Q (.panic chain) a w'
   | .outgrown=>False):kC ro P ops Q (o::rest) a w:=by
 refine qd8 hw hc ?_
 rw[hr]
 refine ⟨fun hd=>by simp[Wd] at hd,?_⟩
 have h':=(callsIn_wide (n:=0)).2 (h.mono (R':=fun
   | .returned v,w''=>kC ro P ops Q rest (a.put o.dst v) w''
   | .panicked chain,w''=>Q (.panic chain) a w''
   | .outgrown,_=>LetsOut Q) fun e w' hk=>by cases e <;> first | exact hk | exact hk.elim)
 exact h'
theorem yg {γ:Type}{mg:Option (α ⊕ σ)}{k:α→Option ρ}{kl:σ→Option ρ}{xs:Array Operand}{V:α→γ→Value}{B1:α→γ→List BlkD}{R1:α→γ→List RowD}(he:Enters P f)(hw:wants ops l ⟨some d,.call ⟨.value (.func f),xs,tys⟩,t,pos,af,gd⟩=some true)(hx:evArgs l xs.toList=some vs)(hd:Nat.blt d n=true)(hC:∀ y,mg=some y→PureL P f vs B0 R0 Φ ch γ V B1 R1 BL y)(hB:Takes B B0 BS)(hR:Takes R R0 RS)(ha:ArgsM RS F Φ)(hl:∀ z,mg=some (.inr z)→SXQ n D M0 w0 Q (.panic ch) l (BL z++BS) RS F (kl z) r)(h:∀ y,mg=some (.inl y)→∀ g,SXO P ro n D M0 w0 Q ops rest ((d,V y g)::l) (B1 y g++BS) (R1 y g++RS) F (k y) r) :
  SXO P ro n D M0 w0 Q ops (⟨some d,.call ⟨.value (.func f),xs,tys⟩,t,pos,af,gd⟩::rest) l B R F (lbnd mg k kl) r:=by
 intro hm a w hf hp
 have hp':=hp.perm hB.perm hR.perm
 cases hq:mg with
 | none=>rw[hq] at hm;simp[lbnd] at hm
 | some y =>
  refine qmO (zu hf hw) (yV hw) (ql4 hf he hx) ((hC y hq w (hp'.startM (ha.ok hp'))).mono fun e w' hP=>?_)
  rw[hq] at hm
  cases y with
  | inl y =>
   have hm':k y=some r:=by simpa[lbnd] using hm
   obtain ⟨g,rfl,h2⟩:=hP
   exact h y hq g hm' _ _ (hf.put hd _) (hp'.callM h2)
  | inr z =>
   have hm':kl z=some r:=by simpa[lbnd] using hm
   obtain ⟨rfl,h2⟩:=hP
   have h3:=hp'.callM h2
   exact hl z hq hm' _ _ hf (by simpa using h3)
theorem qvg {K:Act→World→Prop}(h:SXQ n D M0 w0 Q (.panic ch) l B R F m r):SXQ n D M0 w0 (Exit.then K Q) (.panic ch) l B R F m r:=h
theorem qxZ {id:Nat}(h:SXQ n D M0 w0 Q (.panic ch) l B R F m r):SXQ n D M0 w0 (Exit.inBlock id Q) (.panic ch) l B R F m r:=h
theorem qhZ {c:Code}{γ:Type}{V:α→γ→Value}{B1:α→γ→List BlkD}{R1:α→γ→List RowD}{m:Option (α ⊕ σ)}{r:α ⊕ σ}(hfn:P.funcs[f]?=some fn)(hb:fn.body=some c)(hn:fn.ntmps=N)(hvl:Nat.ble vs.length N=true)(hm:m=some r)(h:∀ w,SXC P none N [] (muts B0 R0) w (bodyPost P fn (PostL ch (muts B0 R0) w V B1 R1 BL r)) c (vs.zipIdx.map fun p=>(p.2,p.1)) B0 R0 Φ m r):PureL P f vs B0 R0 Φ ch γ V B1 R1 BL r:=by
 intro w hp
 refine calls_of_wp hfn hb (qhR.1 (h w hm _ w ?_ hp))
 have hvl':vs.length≤N:=by simpa using hvl
 refine ⟨rfl,by simp[hn];omega,fun i v hv=>?_⟩
 have key:∀ (vs:List Value) (k i:Nat) (v:Value),look ((vs.zipIdx k).map fun p=>(p.2,p.1)) i=some v→k≤i∧vs[i-k]?=some v:=by
  intro vs
  induction vs with
  | nil=>intro k i v hv;simp[look] at hv
  | cons u vs ih =>
   intro k i v hv
   simp only[qDT,qC5] at hv
   rw[qal] at hv
   split at hv
   ·rename_i he;subst he;simpa using hv
   ·obtain ⟨h1,h2⟩:=ih (k+1) i v hv
    refine ⟨by omega,?_⟩
    rw[show i-k=(i-(k+1))+1 from by omega]
    simpa using h2
 obtain ⟨_,h2⟩:=key vs 0 i v hv
 have hlt:=(qCx.1 h2).1
 rw[Array.getElem?_append_left (by simpa using hlt)]
 simpa using h2
theorem qef {γ:Type}{V:α→γ→Value}{B1:α→γ→List BlkD}{R1:α→γ→List RowD}{r:α ⊕ σ}{w:World}{x:α}{e:Exit}(g:γ){v:Value}(he:e=.ret∨e=.normal)(hres:∀ a w',Fr n [] a l→Hp M0 w w' B R F→(results fn a.tmps).run P w'=.ok v w')(hv:v=V x g)(hB:Pick B (B1 x g))(hR:Pick R (R1 x g)) :
  SXQ n [] M0 w (bodyPost P fn (PostL ch M0 w V B1 R1 BL r)) e l B R F (some (.inl x)) r:=by
 intro hm a w' hf hp
 have hx:Sum.inl x=r:=by simpa using hm
 subst hx
 have:∃ v,(results fn a.tmps).run P w'=.ok v w'∧PostL ch M0 w V B1 R1 BL (.inl x) (.returned v) w' :=
  ⟨v,hres a w' hf hp,g,by rw[hv],hp.pick hB hR (by simp)⟩
 rcases he with rfl | rfl
 ·exact ⟨hf.defers,this⟩
 ·exact ⟨hf.defers,this⟩
theorem qkC {γ:Type}{V:α→γ→Value}{B1:α→γ→List BlkD}{R1:α→γ→List RowD}{r:α ⊕ σ}{w:World}{z:σ}(hB:Pick B (BL z)) :
  SXQ n [] M0 w (bodyPost P fn (PostL ch M0 w V B1 R1 BL r)) (.panic ch) l B R F (some (.inr z)) r:=by
 intro hm a w' hf hp
 have hx:Sum.inr z=r:=by simpa using hm
 subst hx
 exact ⟨hf.defers,rfl,hp.pick hB .nil (by simp)⟩
theorem qve {v:Value}(hw:wants ops l ⟨dst,.panic x,t,pos,af,gd⟩=some true)(hx:ev l x=some (.iface T v))(h:SXQ n D M0 w0 Q (.panic [{ v:=.iface T v,recovered:=false }]) l B R F m r):SXO P ro n D M0 w0 Q ops (⟨dst,.panic x,t,pos,af,gd⟩::rest) l B R F m r:=by
 intro hm a w hf hp
 refine qd8 (zu hf hw) (yV hw) ?_
 have h1:(execOp a.eval ⟨dst,.panic x,t,pos,af,gd⟩).run P w=.halt (.panic (.iface T v)) w:=by
  have h1:=hf.ev hx
  generalize a.eval=ε at h1 ⊢
  have h2:(Instr.panic (.iface T v)).run P w=.halt (.panic (.iface T v)) w:=rfl
  simp[execOp,h1,h2]
 rw[h1]
 exact h hm a w hf hp
variable {w:World}
theorem Keeps.putObj (g:Nat)(o:Obj):Keeps [g] w (w.putObj g o) :=
 ⟨rfl,rfl,rfl,by simp[World.putObj],fun k _ hn=>World.putObj_heap_other (by intro e;exact hn (by simp[e])),fun _=>qCE _⟩
theorem Hp.setObj {b:BlkD}(h:Hp M0 w0 w B R F)(hi:B[i]?=some b)(o:Obj):Hp M0 w0 (w.putObj b.g o) (B.set i (blkO b.g o)) R F:=by
 have hm:b∈B:=qCq hi
 have hgm:b.g∈muts B R:=qCr.2 (.inl (qCV.2 ⟨_,hm,rfl⟩))
 have hlt:=h.lt _ hgm
 have hk:=Keeps.putObj (w:=w) b.g o
 have hmu:=qjF (R:=R) (b':=blkO b.g o) hi rfl
 refine h.turn [b.g] hk (by simpa using hgm) (fun b' hb=>?_) (fun r hr=>jk (h.rows r hr) hk fun g' hg'=>?_) (hmu▸h.nodup) (fun k hk=>.inl (hmu▸hk))
 ·obtain ⟨j,hj⟩:=List.getElem?_of_mem hb
  rw[qDB] at hj
  split at hj
  ·split at hj
   ·simp at hj;subst hj
    exact World.putObj_heap_same hlt
   ·simp at hj
  ·rename_i hij
   refine qb9 (h.blk b' (qCq hj)) hk (fun hg=>?_)
   simp only[qCI] at hg
   exact hij (qnk h.nodup hi hj hg.symm)
 ·intro hgg
  simp only[qCI] at hgg
  have hnd:=(qDa.1 h.nodup).2.2
  exact hnd b.g (qCV.2 ⟨_,hm,rfl⟩) g' (qDq.2 ⟨r,hr,hg'⟩) hgg.symm
theorem Hp.allocO (h:Hp M0 w0 w B R F)(o:Obj):Hp M0 w0 (w.alloc o) (blkO w.heap.size o::B) R F:=by
 have hk:=Keeps.alloc [] w o
 refine h.turn [] hk (by simp) (fun b hb=>?_) (fun r hr=>jk (h.rows r hr) hk (by simp)) ?_ ?_
 ·rcases qCu.1 hb with rfl | hb
  ·exact heap_alloc_new w _
  ·exact qb9 (h.blk b hb) hk (by simp)
 ·simp only[muts,qC5,qDt,qDw]
  exact ⟨fun hm=>by have:=h.lt _ hm;omega,h.nodup⟩
 ·intro g hg
  simp only[muts,qC5,qDt,qCu] at hg
  rcases hg with rfl | hg
  ·exact .inr (qCE _)
  ·exact .inl hg
theorem Hp.facts {F':List (World→Prop)}(h:Hp M0 w0 w B R F)(hF:∀ φ∈F',Nec w (muts B R) φ):Hp M0 w0 w B R F' :=
 { keep:=h.keep,blk:=h.blk,rows:=h.rows,nodup:=h.nodup,fresh:=h.fresh,per:=hF }
def mark (k:Nat):Deferred:={ target:=.collected k,args:=#[] }
abbrev dblk (k:Nat):BlkD:=blkO k (.deferred (some []))
theorem qoC {tmps:Array Value}{Rp:Ending→World→Prop}{v:Value}:∀ (Ds:List Nat) (w:World) (B:List BlkD),Hp M0 w0 w (Ds.map dblk++B) R F →
  (∀ w',Hp M0 w0 w' B R F→(results fn tmps).run P w'=.ok v w'∧Rp (.returned v) w')→LeavesInM (Wd none) 0 P fn tmps Rp (Ds.map mark) .returning w:=by
 intro Ds
 induction Ds with
 | nil=>intro w B hp h;obtain ⟨h1,h2⟩:=h w hp;exact ⟨v,h1,h2⟩
 | cons k Ds ih =>
  intro w B hp h
  have hb:w.heap[k]?=some (.deferred (some [])):=hp.blk (dblk k) (by simp)
  refine ⟨by simp,.inl ⟨k,_,rfl,run_takeDeferred hb,ih _ B ?_ h⟩⟩
  exact (hp.setObj (i:=0) (b:=dblk k) rfl (.deferred none)).weaken (by simp) (qCS _) (fun φ h=>h)
theorem jo {γ:Type}{V:γ→Value}{B1:γ→List BlkD}{R1:γ→List RowD}{x:ρ}{e:Exit}(Ds:List Nat)(g:γ){v:Value}(he:e=.ret∨e=.normal)(hD:D=Ds.map mark)(hT:Takes B (Ds.map dblk) B')(hres:∀ a w',Fr n [] a l→Hp M0 w w' B' R F→(results fn a.tmps).run P w'=.ok v w')(hv:x=r→v=V g)(hB:x=r→Pick B' (B1 g))(hR:x=r→Pick R (R1 g)) :
  SXQ n D M0 w (bodyPostM (Wd none) 0 P fn fun e w'=>∃ g:γ,e=.returned (V g)∧Hp M0 w w' (B1 g) (R1 g) []) e l B R F (some x) r:=by
 intro hm a w' hf hp
 have hx:x=r:=by simpa using hm
 have:LeavesInM (Wd none) 0 P fn a.tmps (fun e w'=>∃ g:γ,e=.returned (V g)∧Hp M0 w w' (B1 g) (R1 g) []) a.defers .returning w':=by
  rw[hf.defers,hD]
  refine qoC (v:=v) (R:=R) (F:=F) Ds w' B' (hp.perm hT.perm (qCU _)) fun w2 hp2=>⟨?_,g,by rw[hv hx],hp2.pick (hB hx) (hR hx) (by simp)⟩
  exact hres { tmps:=a.tmps,defers:=[] } w2 ⟨rfl,hf.size,hf.val⟩ hp2
 rcases he with rfl | rfl
 ·exact this
 ·exact this
theorem qyK (hn:fn.ntmps=N)(hvl:Nat.ble vs.length N=true):Fr N [] { tmps:=vs.toArray++Array.replicate (fn.ntmps-vs.toArray.size) undef,defers:=[] } (vs.zipIdx.map fun p=>(p.2,p.1)):=by
 have hvl':vs.length≤N:=by simpa using hvl
 refine ⟨rfl,by simp[hn];omega,fun i v hv=>?_⟩
 have key:∀ (vs:List Value) (k i:Nat) (v:Value),look ((vs.zipIdx k).map fun p=>(p.2,p.1)) i=some v→k≤i∧vs[i-k]?=some v:=by
  intro vs
  induction vs with
  | nil=>intro k i v hv;simp[look] at hv
  | cons u vs ih =>
   intro k i v hv
   simp only[qDT,qC5] at hv
   rw[qal] at hv
   split at hv
   ·rename_i he;subst he;simpa using hv
   ·obtain ⟨h1,h2⟩:=ih (k+1) i v hv
    refine ⟨by omega,?_⟩
    rw[show i-k=(i-(k+1))+1 from by omega]
    simpa using h2
 obtain ⟨_,h2⟩:=key vs 0 i v hv
 have hlt:=(qCx.1 h2).1
 rw[Array.getElem?_append_left (by simpa using hlt)]
 simpa using h2
theorem qdM {c:Code}{γ:Type}{V:γ→Value}{B1:γ→List BlkD}{R1:γ→List RowD}(hfn:P.funcs[f]?=some fn)(hb:fn.body=some c)(hn:fn.ntmps=N)(hvl:Nat.ble vs.length N=true)(hm:m=some r)(h:∀ w,SXC P none N [] (muts B0 R0) w (bodyPostM (Wd none) 0 P fn fun e w'=>∃ g:γ,e=.returned (V g)∧Hp (muts B0 R0) w w' (B1 g) (R1 g) []) c (vs.zipIdx.map fun p=>(p.2,p.1)) B0 R0 Φ m r):PureM P f vs B0 R0 Φ γ V B1 R1:=by
 intro w hp
 refine (callsIn_wide (n:=0)).1 (callsIn_of_wp_marks hfn hb trivial (h w hm _ w ?_ hp))
 exact qyK hn hvl
structure Rounds (σ τ:Type) where
 γ:Type
 δ:Type
 IB:σ→γ→List BlkD
 IR:σ→γ→List RowD
 XB:τ→δ→List BlkD
 XR:τ→δ→List RowD
 F:World→Prop
abbrev Rounds.G {σ τ:Type} (J:Rounds σ τ):σ ⊕ τ→Type
 | .inl _=>J.γ
 | .inr _=>J.δ
abbrev Rounds.bs {σ τ:Type} (J:Rounds σ τ):(z:σ ⊕ τ)→J.G z→List BlkD
 | .inl s=>fun g=>J.IB s g
 | .inr t=>fun g=>J.XB t g
abbrev Rounds.rs {σ τ:Type} (J:Rounds σ τ):(z:σ ⊕ τ)→J.G z→List RowD
 | .inl s=>fun g=>J.IR s g
 | .inr t=>fun g=>J.XR t g
def YieldC {σ τ α:Type}(P:Program)(L:Nat)(encs:α→List Value)(J:Rounds σ τ)(y:σ→α→Option (σ ⊕ τ)):Prop :=
 ∀ s x r,y s x=some r→∀ (g:J.γ) w,Hp (muts (J.IB s g) (J.IR s g)) w w (J.IB s g) (J.IR s g) [J.F] →
  YieldAt (Wd none) 0 P L (encs x).toArray w fun e w'=>e=.returned (.bool r.isLeft)∧∃ g',Hp (muts (J.IB s g) (J.IR s g)) w w' (J.bs r g') (J.rs r g') []
theorem qno {α:Type}:∀ {R:List α},Pick R R
 | []=>.nil
 | _::_=>.cons 0 rfl qno
theorem qe {α:Type}:∀ {R S:List α} (i:Nat),R.drop i=S→Pick R S
 | _,_,0,rfl=>qno
 | [],_,i+1,h=>by simp at h;subst h;exact .nil
 | a::R,S,i+1,h=>by
  have h1:Pick R S:=qe i (by simpa using h)
  have key:∀ {R S:List α} {a:α},Pick R S→Pick (a::R) S:=by
   intro R S a h
   induction h generalizing a with
   | nil=>exact .nil
   | cons i h _ ih=>exact .cons (i+1) (by simpa using h) (by simpa using ih)
  exact key h1
theorem jn {τ:Type}{J:Rounds σ τ}{x z:σ ⊕ τ}{e:Exit}{v:Value}(g:J.G x)(he:e=.ret∨e=.normal)(hres:∀ a w',Fr n [] a l→Hp M0 w w' B R F→(results fn a.tmps).run P w'=.ok v w')(hB:Pick B (B0++J.bs x g))(hR:Pick R (J.rs x g)) :
  SXQ n [] M0 w (bodyPost P fn fun e w'=>∃ g:J.G z,e=.returned v∧Hp M0 w w' (B0++J.bs z g) (J.rs z g) []) e l B R F (some x) z:=by
 intro hm a w' hf hp
 obtain rfl:x=z:=by simpa using hm
 have:∃ v',(results fn a.tmps).run P w'=.ok v' w'∧∃ g:J.G x,Ending.returned v'=.returned v∧Hp M0 w w' (B0++J.bs x g) (J.rs x g) [] :=
  ⟨v,hres a w' hf hp,g,rfl,hp.pick hB hR (by simp)⟩
 rcases he with rfl | rfl
 ·exact ⟨hf.defers,this⟩
 ·exact ⟨hf.defers,this⟩
theorem qfu {τ:Type}{encs:α→List Value}{J:Rounds σ τ}{y:σ→α→Option (σ ⊕ τ)}{L:Nat}(hY:YieldC P L encs J y)(s:σ)(x:α)(g:J.γ){xs:Array Operand}{B1:List BlkD}{R1:List RowD}{k1:σ→Option ρ}{k2:τ→Option ρ}(hw:wants ops l ⟨some d,.call ⟨.value x0,xs,tys⟩,t,pos,af,gd⟩=some true)(h0:ev l x0=some (.func (.yield L) #[] #[]))(hx:evArgs l xs.toList=some (encs x))(hd:Nat.blt d n=true)(hB:B=B1++J.IB s g)(hR:R=R1++J.IR s g)(hF:F[j]?=some J.F)(h1:∀ s',y s x=some (.inl s')→∀ g',SXO P ro n D M0 w0 Q ops rest ((d,.bool true)::l) (B1++J.IB s' g') (R1++J.IR s' g') F (k1 s') r)(h2:∀ t,y s x=some (.inr t)→∀ g',SXO P ro n D M0 w0 Q ops rest ((d,.bool false)::l) (B1++J.XB t g') (R1++J.XR t g') F (k2 t) r) :
  SXO P ro n D M0 w0 Q ops (⟨some d,.call ⟨.value x0,xs,tys⟩,t,pos,af,gd⟩::rest) l B R F ((y s x).bind (Sum.elim k1 k2)) r:=by
 intro hm a w hf hp
 cases hq:y s x with
 | none=>rw[hq] at hm;simp at hm
 | some z =>
  rw[hq] at hm
  have hm':Sum.elim k1 k2 z=some r:=by simpa using hm
  subst hB hR
  have hp':=hp.perm (qDu) (qDu)
  have hst:Hp (muts (J.IB s g) (J.IR s g)) w w (J.IB s g) (J.IR s g) [J.F]:=by
   refine hp'.startM fun φ hφ=>?_
   simp only[qCI] at hφ
   subst hφ
   exact (hp'.per _ (qCq hF)).less fun k hk=>qgX.mem_iff.2 (qCr.2 (.inl hk))
  obtain ⟨fn,tmps,asg,body,hrun,hR2⟩:=hY s x z hq g w hst
  have hrun2:(execOp a.eval ⟨some d,.call ⟨.value x0,xs,tys⟩,t,pos,af,gd⟩).run P w=.ok (.round L fn tmps asg body) w:=by
   have e1:=hf.ev h0
   have e2:=hf.evArgs hx
   have e3:xs.map a.eval=(encs x).toArray:=by rw[← e2,← Array.toList_map,Array.toArray_toList]
   generalize a.eval=ε at e1 e3 ⊢
   simp[execOp,resolve,e1,e3,Deferred.ofValue,invoke,hrun]
  refine qd8 (zu hf hw) (yV hw) ?_
  rw[hrun2]
  refine ⟨fun hd=>by simp[Wd] at hd,?_⟩
  refine RoundIn.mono (show RoundIn (Wd ro) 0 P L fn tmps asg body w _ from hR2) ?_
  rintro e w' ⟨rfl,g',hp2⟩
  have hp3:=(hp'.callM hp2).perm (qDu) (qDu)
  cases z with
  | inl s'=>exact h1 s' hq g' hm' _ _ (hf.put hd _) hp3
  | inr u=>exact h2 u hq g' hm' _ _ (hf.put hd _) hp3
abbrev rdy (rc:Loop):Loop:={ rc with state:=.ready,pending:=none }
abbrev bsy (rc:Loop):Loop:={ rc with state:=.busy,pending:=none }
abbrev don (rc:Loop) (c:Code):Loop:={ rc with state:=.done,pending:=some c }
abbrev rnds {σ τ γ δ:Type} (IB:σ→γ→List BlkD) (IR:σ→γ→List RowD) (XB:τ→δ→List BlkD) (XR:τ→δ→List RowD) (jump:τ→Code) (F:List (World→Prop)) (rc:Loop) (L Dk:Nat):Rounds σ τ where
 γ:=γ
 δ:=δ
 IB:=fun s g=>IB s g++[blkO L (.loop (rdy rc)),dblk Dk]
 IR:=IR
 XB:=fun t g=>XB t g++[blkO L (.loop (don rc (jump t))),dblk Dk]
 XR:=XR
 F:=fun w=>∀ φ∈F,φ w
def qtK (P:Program){σ τ:Type}(J:Rounds σ τ)(L:Nat)(M:List Nat)(w:World)(z:σ ⊕ τ):Exit→Act→World→Prop :=
 roundPost P L (fun e w'=>e=.returned (.bool z.isLeft)∧∃ g',Hp M w w' (J.bs z g') (J.rs z g') [])
theorem qim {L:Nat}{rc:Loop}{body:Code}(hB:B[i]?=some (blkO L (.loop (rdy rc))))(h:SXC P (some L) n [] M0 w0 Q body l (B.set i (blkO L (.loop (bsy rc)))) R F m r) :
  SXQ n [] M0 w0 (Exit.then (fun a1 w1=>∃ w2,(Instr.beginRound L).run P w1=.ok () w2∧gwp (some L) P body Q a1 w2) (fun _ _ _=>False)) .normal l B R F m r:=by
 intro hm a w hf hp
 have hb:w.heap[L]?=some (.loop (rdy rc)):=hp.blk (blkO L (.loop (rdy rc))) (qCq hB)
 exact ⟨_,run_beginRound hb rfl,h hm _ _ hf (hp.setObj hB (.loop (bsy rc)))⟩
def jumpOf:Exit→Option Code
 | .ret=>some .ret
 | .exit id=>some (.exit id)
 | _=>none
def isJump:Exit→Bool
 | .ret=>true
 | .exit _=>true
 | .normal=>true
 | _=>false
theorem vv {τ:Type}{J:Rounds σ τ}{L:Nat}{rc:Loop}{x z:σ ⊕ τ}{e:Exit}(he:isJump e=true)(hT:Takes B [blkO L (.loop (bsy rc))] B')(hl:x.isLeft=(jumpOf e).isNone)(g':J.G x)(hB:Pick (blkO L (.loop { rc with state:=if (jumpOf e).isNone then .ready else .done,pending:=jumpOf e })::B') (J.bs x g'))(hR:Pick R (J.rs x g')) :
  SXQ n [] M0 w0 (qtK P J L M0 w0 z) e l B R F (some x) z:=by
 intro hm a w hf hp
 obtain rfl:x=z:=by simpa using hm
 have hp':=hp.perm hT.perm (qCU _)
 have hb:w.heap[L]?=some (.loop (bsy rc)):=hp'.blk (blkO L (.loop (bsy rc))) (by simp)
 have h2:=(hp'.setObj (i:=0) (b:=blkO L (.loop (bsy rc))) rfl (.loop { rc with state:=if (jumpOf e).isNone then .ready else .done,pending:=jumpOf e })).pick hB hR (F':=[]) (by simp)
 have key:∃ v w',(Instr.endRound L (jumpOf e)).run P w=.ok v w'∧(Ending.returned v=.returned (.bool x.isLeft)∧∃ g',Hp M0 w0 w' (J.bs x g') (J.rs x g') []) :=
  ⟨_,_,run_endRound (jumpOf e) hb,by rw[hl],g',h2⟩
 cases e <;> first | exact key | cases he
theorem qux {xs:List (Tmp×Value)}:∀ {a:Array Value} {l:Env},(∀ p∈xs,p.1<n)→Fr n [] { tmps:=a,defers:=[] } l→Fr n [] { tmps:=xs.foldl (fun t (p,v)=>t.setIfInBounds p v) a,defers:=[] } (xs.foldl (fun l p=>(p.1,p.2)::l) l):=by
 induction xs with
 | nil=>intro a l _ h;exact h
 | cons x xs ih =>
  intro a l hn h
  obtain ⟨p,v⟩:=x
  refine ih (fun q hq=>hn q (qCD _ hq)) ?_
  have hp:=hn (p,v) (by simp)
  have:=h.put (d:=p) (v:=v) (by simpa using hp)
  exact this
theorem qcr {τ γ δ:Type}{encs:α→List Value}{y:σ→α→Option (σ ⊕ τ)}{gop:Operand}{ps:Array Tmp}{assign body:Code}{gf:FuncId}{lb:List Value}{mi:Option (σ ⊕ τ)}{k1:σ→Option ρ}{k2:τ→Option ρ}(IB:σ→γ→List BlkD)(IR:σ→γ→List RowD)(XB:τ→δ→List BlkD)(XR:τ→δ→List RowD)(jump:τ→Code)(s0:σ)(g0:γ)(hg:ev l gop=some (.func (.func gf) #[] lb.toArray))(he:Enters P gf)(hps:∀ x,(encs x).length=ps.size)(hpn:ps.toList.all (fun p=>Nat.blt p n)=true)(hB0:Takes B B0 B')(hB1:Takes B' (IB s0 g0) BS)(hR:Takes R (IR s0 g0) RS)(hΦ:ArgsM RS F Φ)(hC:∀ z,mi=some z→∀ rc L Dk,YieldC P L encs (rnds IB IR XB XR jump F rc L Dk) y →
   PureM P gf (.func (.yield L) #[] #[]::lb) (B0++(rnds IB IR XB XR jump F rc L Dk).IB s0 g0) (IR s0 g0) ((rnds IB IR XB XR jump F rc L Dk).F::Φ) ((rnds IB IR XB XR jump F rc L Dk).G z) (fun _=>.tuple #[])
    (fun g=>B0++(rnds IB IR XB XR jump F rc L Dk).bs z g) (fun g=>(rnds IB IR XB XR jump F rc L Dk).rs z g))(hbody:∀ rc L Dk s g x z w M,M=muts (IB s g++[blkO L (.loop (rdy rc)),dblk Dk]) (IR s g) →
   SXC P (some L) n [] M w (Exit.then (fun a1 w1=>∃ w2,(Instr.beginRound L).run P w1=.ok () w2∧gwp (some L) P body (qtK P (rnds IB IR XB XR jump F rc L Dk) L M w z) a1 w2) (fun _ _ _=>False))
    assign ((ps.toList.zip (encs x)).foldl (fun l p=>(p.1,p.2)::l) l) (IB s g++[blkO L (.loop (rdy rc)),dblk Dk]) (IR s g) F (y s x) z)(hdone:∀ s,mi=some (.inl s)→∀ g Dk,SXQ n (mark Dk::D) M0 w0 Q .normal l (dblk Dk::(B0++(IB s g++BS))) (IR s g++RS) F (k1 s) r)(hstop:∀ t,mi=some (.inr t)→∀ g Dk,SXC P none n (mark Dk::D) M0 w0 Q (jump t) l (dblk Dk::(B0++(XB t g++BS))) (XR t g++RS) F (k2 t) r) :
  SXC P none n D M0 w0 Q (.rangeFunc gop ps assign body) l B R F (mi.bind (Sum.elim k1 k2)) r:=by
 intro hm a w hf hp
 cases hq:mi with
 | none=>rw[hq] at hm;simp at hm
 | some z =>
 rw[hq] at hm
 have hm':Sum.elim k1 k2 z=some r:=by simpa using hm
 refine wpIn_rangeFunc ?_
 intro fn _
 obtain ⟨rc,hrc⟩:∃ rc:Loop,rc={ state:=.ready,pending:=none,fn,tmps:=a.tmps,params:=ps,assign,body,defers:=w.heap.size }:=⟨_,rfl⟩
 obtain ⟨L,hL⟩:∃ L,L=w.heap.size+1:=⟨_,rfl⟩
 obtain ⟨Dk,hDk⟩:∃ Dk,Dk=w.heap.size:=⟨_,rfl⟩
 obtain ⟨W1,hW1⟩:∃ W1,(w.alloc (.deferred (some []))).alloc (.loop (rdy rc))=W1:=⟨_,rfl⟩
 have hp1:Hp M0 w0 W1 (blkO L (.loop (rdy rc))::dblk Dk::B) R F:=by
  rw[← hW1]
  have:=(hp.allocO (.deferred (some []))).allocO (.loop (rdy rc))
  rw[World.size_alloc] at this
  rw[hL,hDk]
  exact this
 have hp2:Hp M0 w0 W1 ((B0++(IB s0 g0++[blkO L (.loop (rdy rc)),dblk Dk]))++BS) (IR s0 g0++RS) F:=by
  refine hp1.perm ?_ hR.perm
  refine (qDK [_,_] (hB0.perm.trans (qDK _ hB1.perm))).trans ?_
  rw[← qCv,← qCv,← qCv]
  refine qDX _ ?_
  rw[qCv]
  exact qDu
 have hY:YieldC P L encs (rnds IB IR XB XR jump F rc L Dk) y:=by
  intro s x z hz g w1 hp
  have hb:w1.heap[L]?=some (.loop (rdy rc)):=hp.blk (blkO L (.loop (rdy rc))) (by simp)
  have hy:=run_yield (P:=P) (args:=(encs x).toArray) hb (by rw[hrc];simpa using hps x)
  refine ⟨_,_,_,_,hy,roundIn_of_wpIn trivial ?_⟩
  have hfacts:Hp (muts (IB s g++[blkO L (.loop (rdy rc)),dblk Dk]) (IR s g)) w1 w1 (IB s g++[blkO L (.loop (rdy rc)),dblk Dk]) (IR s g) F:=hp.facts fun φ hφ w' hk=>hp.per _ (qCI.2 rfl) w' hk φ hφ
  have hfr:Fr n [] { tmps:=((rdy rc).params.zip (encs x).toArray).foldl (fun tmps (t,a)=>tmps.setIfInBounds t a) (rdy rc).tmps,defers:=[] } ((ps.toList.zip (encs x)).foldl (fun l p=>(p.1,p.2)::l) l):=by
   have h0:Fr n [] { tmps:=a.tmps,defers:=[] } l:=⟨rfl,hf.size,hf.val⟩
   have h1:=qux (xs:=ps.toList.zip (encs x)) (fun p hp=>by
    have:=(List.of_mem_zip hp).1
    rw[qC9] at hpn
    simpa using hpn p.1 this) h0
   rw[hrc]
   have h2:(ps.zip (encs x).toArray).foldl (fun tmps (t,a)=>tmps.setIfInBounds t a) a.tmps=(ps.toList.zip (encs x)).foldl (fun tmps (t,a)=>tmps.setIfInBounds t a) a.tmps:=by
    rw[← Array.foldl_toList]
    simp
   simp only[h2]
   exact h1
  have:=hbody rc L Dk s g x z w1 _ rfl hz _ w1 hfr hfacts
  rw[hrc] at this ⊢
  exact this
 have hrun:=hC z hq rc L Dk hY W1 (hp2.startM fun φ hφ=>by
  rcases qCu.1 hφ with rfl | hφ
  ·intro w' hk φ hφ
   exact ((hp2.per _ hφ).less fun k hk=>qgX.mem_iff.2 (qCr.2 (.inl hk))) w' hk
  ·exact hΦ.ok hp2 φ hφ)
 refine ⟨L,[mark Dk],W1,{ target:=.fn (.func gf) lb.toArray,args:=#[.func (.yield L) #[] #[]] },W1,gf,#[.func (.yield L) #[] #[]]++lb.toArray,W1,?_,?_,fun _ _=>trivial,?_,fun h=>by simp[Wd] at h,?_⟩
 ·rw[← hW1,hrc,hL,hDk];exact run_enterLoop_outer _ _ _ _ _
 ·have e1:=hf.ev hg
  simp only[resolve,e1]
  simp[go_sem]
 ·simp[invoke,go_sem]
  exact he _ W1
 ·refine callsIn_wide.2 ?_
  have harr:(.func (.yield L) #[] #[]::lb:List Value).toArray=#[.func (.yield L) #[] #[]]++lb.toArray:=by simp
  rw[← harr]
  refine hrun.mono ?_
  rintro e w' ⟨g',rfl,hpe⟩
  have hp3:=hp2.callM hpe
  have hfr:Fr n (mark Dk::D) { a with defers:=[mark Dk]++a.defers } l:=⟨by simp[hf.defers],hf.size,hf.val⟩
  cases z with
  | inl s =>
   have hb:w'.heap[L]?=some (.loop (rdy rc)):=hp3.blk (blkO L (.loop (rdy rc))) (qCr.2 (.inl (qCr.2 (.inr (qCr.2 (.inr (by simp)))))))
   refine ⟨none,_,run_endLoop hb (by simp),?_⟩
   refine hdone s hq g' Dk hm' _ _ hfr ?_
   have hp4:Hp M0 w0 w' (blkO L (.loop (rdy rc))::(dblk Dk::(B0++(IB s g'++BS)))) (IR s g'++RS) F:=by
    refine hp3.perm ?_ (qCU _)
    show ((B0++(IB s g'++[blkO L (.loop (rdy rc)),dblk Dk]))++BS).Perm ([blkO L (.loop (rdy rc)),dblk Dk]++(B0++(IB s g'++BS)))
    rw[← qCv,← qCv,← qCv]
    refine qDX _ ?_
    rw[qCv [_,_]]
    exact qDu
   exact (hp4.setObj (i:=0) (b:=blkO L (.loop (rdy rc))) rfl _).weaken (by simp) (qCS _) (fun φ h=>h)
  | inr t =>
   have hb:w'.heap[L]?=some (.loop (don rc (jump t))):=hp3.blk (blkO L (.loop (don rc (jump t)))) (qCr.2 (.inl (qCr.2 (.inr (qCr.2 (.inr (by simp)))))))
   refine ⟨some (jump t),_,run_endLoop hb (by simp),?_⟩
   refine hstop t hq g' Dk hm' _ _ hfr ?_
   have hp4:Hp M0 w0 w' (blkO L (.loop (don rc (jump t)))::(dblk Dk::(B0++(XB t g'++BS)))) (XR t g'++RS) F:=by
    refine hp3.perm ?_ (qCU _)
    show ((B0++(XB t g'++[blkO L (.loop (don rc (jump t))),dblk Dk]))++BS).Perm ([blkO L (.loop (don rc (jump t))),dblk Dk]++(B0++(XB t g'++BS)))
    rw[← qCv,← qCv,← qCv]
    refine qDX _ ?_
    rw[qCv [_,_]]
    exact qDu
   exact (hp4.setObj (i:=0) (b:=blkO L (.loop (don rc (jump t)))) rfl _).weaken (by simp) (qCS _) (fun φ h=>h)
theorem qo7 {xs:Array Operand}(hw:wants ops l ⟨some d,.makeFunc (.func f) #[] xs,t,pos,af,gd⟩=some true)(hx:evArgs l xs.toList=some vs)(hd:Nat.blt d n=true)(h:SXO P ro n D M0 w0 Q ops rest ((d,.func (.func f) #[] vs.toArray)::l) B R F m r):SXO P ro n D M0 w0 Q ops (⟨some d,.makeFunc (.func f) #[] xs,t,pos,af,gd⟩::rest) l B R F m r :=
 qP _ hw rfl hd (fun a w hf _=>by
  have h2:=hf.evArgs hx
  have h3:xs.map a.eval=vs.toArray:=by rw[← h2,← Array.toList_map,Array.toArray_toList]
  generalize a.eval=ε at h3 ⊢
  simp[execOp,Instr.makeFunc,h3]) h
theorem qnq {xs:Array Operand}{cs:List Value}(hf:Fr n D a l)(he:Enters P f)(h0:ev l x0=some (.func (.func f) #[] cs.toArray))(hx:evArgs l xs.toList=some vs) :
  (execOp a.eval ⟨dst,.call ⟨.value x0,xs,tys⟩,t,pos,af,gd⟩).run P w=.ok (.enter f (vs++cs).toArray) w:=by
 have h1:=hf.ev h0
 have h2:=hf.evArgs hx
 have h3:xs.map a.eval=vs.toArray:=by rw[← h2,← Array.toList_map,Array.toArray_toList]
 have h4:=he (vs++cs).toArray w
 have h5:(vs++cs).toArray=vs.toArray++cs.toArray:=by simp
 generalize a.eval=ε at h1 h3 ⊢
 rw[h5] at h4 ⊢
 simp only[List.append_toArray] at h4
 simp[execOp,resolve,h1,h3,Deferred.ofValue,invoke,h4]
theorem qkA {γ:Type}{mg:Option α}{k:α→Option ρ}{xs:Array Operand}{cs:List Value}{V:α→γ→Value}{RW:α→γ→List RowD}{PH:α→γ→List (World→Prop)}(he:Enters P f)(h0:ev l x0=some (.func (.func f) #[] cs.toArray))(hw:wants ops l ⟨some d,.call ⟨.value x0,xs,tys⟩,t,pos,af,gd⟩=some true)(hx:evArgs l xs.toList=some vs)(hd:Nat.blt d n=true)(hC:∀ y,mg=some y→Pure P f (vs++cs) Φ γ (V y) (RW y) (PH y))(ha:Args R F Φ)(h:∀ y,mg=some y→∀ g,SXO P ro n D M0 w0 Q ops rest ((d,V y g)::l) B (RW y g++R) (PH y g++F) (k y) r) :
  SXO P ro n D M0 w0 Q ops (⟨some d,.call ⟨.value x0,xs,tys⟩,t,pos,af,gd⟩::rest) l B R F (mg.bind k) r:=by
 intro hm a w hf hp
 cases hq:mg with
 | none=>rw[hq] at hm;simp at hm
 | some y =>
  rw[hq] at hm
  have hm':k y=some r:=by simpa using hm
  refine qdJ (zu hf hw) (yV hw) (qnq hf he h0 hx) ((hC y hq w (Hp.start (ha.ok hp))).mono fun e w' ⟨g,h1,h2⟩=>⟨V y g,h1,?_⟩)
  exact h y hq g hm' _ _ (hf.put hd _) (hp.call h2)
theorem qfZ {γ:Type}{mg:Option α}{k:α→Option ρ}{xs:Array Operand}{cs:List Value}{V:α→γ→Value}{B1:α→γ→List BlkD}{R1:α→γ→List RowD}(he:Enters P f)(h0:ev l x0=some (.func (.func f) #[] cs.toArray))(hw:wants ops l ⟨some d,.call ⟨.value x0,xs,tys⟩,t,pos,af,gd⟩=some true)(hx:evArgs l xs.toList=some vs)(hd:Nat.blt d n=true)(hC:∀ y,mg=some y→PureM P f (vs++cs) B0 R0 Φ γ (V y) (B1 y) (R1 y))(hB:Takes B B0 BS)(hR:Takes R R0 RS)(ha:ArgsM RS F Φ)(h:∀ y,mg=some y→∀ g,SXO P ro n D M0 w0 Q ops rest ((d,V y g)::l) (B1 y g++BS) (R1 y g++RS) F (k y) r) :
  SXO P ro n D M0 w0 Q ops (⟨some d,.call ⟨.value x0,xs,tys⟩,t,pos,af,gd⟩::rest) l B R F (mg.bind k) r:=by
 intro hm a w hf hp
 cases hq:mg with
 | none=>rw[hq] at hm;simp at hm
 | some y =>
  rw[hq] at hm
  have hm':k y=some r:=by simpa using hm
  have hp':=hp.perm hB.perm hR.perm
  refine qdJ (zu hf hw) (yV hw) (qnq hf he h0 hx) ((hC y hq w (hp'.startM (ha.ok hp'))).mono fun e w' ⟨g,h1,h2⟩=>⟨V y g,h1,?_⟩)
  exact h y hq g hm' _ _ (hf.put hd _) (hp'.callM h2)
theorem qng {i:Nat}{v:Value}:∀ (l':Env),(∀ p∈l',look l p.1=some p.2)→look l' i=some v→look l i=some v
 | [],_,h=>by simp[look] at h
 | (k,u)::l',h,hv=>by
  rw[qal] at hv
  split at hv
  ·rename_i e
   subst e
   rw[← hv]
   exact h (_,u) (by simp)
  ·exact qng l' (fun p hp=>h p (qCD _ hp)) hv
theorem qdQ {c:Code}(l':Env)(h:∀ p∈l',look l p.1=some p.2)(hc:SXC P ro n D M0 w0 Q c l' B R F m r):SXC P ro n D M0 w0 Q c l B R F m r :=
 fun hm a w hf hp=>hc hm a w ⟨hf.defers,hf.size,fun i v hv=>hf.val i v (qng l' h hv)⟩ hp
def opK (ro:Option Nat)(P:Program)(ops:Array Oper)(Q:Exit→Act→World→Prop)(i:Nat)(K:Act→World→Prop)(a:Act)(w:World):Prop:=wpOpIn (Wd ro) 0 P ops Q i K a w
def anyK (ro:Option Nat)(P:Program)(ops:Array Oper)(Q:Exit→Act→World→Prop)(S:Array Bool→World→Prop):Nat→Array Bool→Act→World→Prop
 | 0,done,a,w=>Region.ready .any ops done=[]∧Q .normal a w
 | fuel+1,done,a,w=>(Region.ready .any ops done=[]→Q .normal a w) ∧
  ∀ i∈Region.ready .any ops done,opK ro P ops Q i (fun a' w'=>S (done.setIfInBounds i true) w'∧anyK ro P ops Q S fuel (done.setIfInBounds i true) a' w') a w
theorem qiW {S:Array Bool→World→Prop}:∀ (fuel:Nat) (done:Array Bool) (a:Act) (w:World),anyK ro P ops Q S fuel done a w→wpAnyIn (Wd ro) 0 P .any ops Q fuel done a w
 | 0,_,_,_,h=>h
 | fuel+1,_,_,_,h=>⟨h.1,fun i hi=>wpOpIn_mono (fun a' w' h'=>qiW fuel _ a' w' h'.2) (h.2 i hi)⟩
def calmA (ops:Array Oper):Bool:=ops.all fun o=>calm o
theorem qiX (h:calmA ops=true)(ho:ops[j]?=some o):∀ c,o.op≠.defer c:=by
 have:=Array.all_eq_true_iff_forall_mem.1 h o (Array.mem_of_getElem? ho)
 intro c hc
 unfold calm at this
 rw[hc] at this
 simp at this
def YI (P:Program)(ops:Array Oper)(T:World→Prop)(o:Oper)(v:Value)(a:Act):Prop :=
 (Region.wanted o (yielded ops a.tmps)=true∧∀ w,T w→(execOp a.eval o).run P w=.ok (.value v) w)∨(Region.wanted o (yielded ops a.tmps)=false∧v=undef)
theorem YI.of_same {T:World→Prop}{v:Value}{a':Act}(hy:YI P ops T o v a)(he:execOp a'.eval o=execOp a.eval o)(hw:Region.wanted o (yielded ops a'.tmps)=Region.wanted o (yielded ops a.tmps)):YI P ops T o v a':=by
 unfold YI at *
 rw[he,hw]
 exact hy
theorem YI.op {T:World→Prop}{v:Value}(hi:ops[i]?=some o)(hc:∀ c,o.op≠.defer c)(hy:YI P ops T o v a){K:Act→World→Prop}(hT:T w)(h:K (a.put o.dst v) w):opK ro P ops Q i K a w:=by
 unfold opK wpOpIn
 simp only[hi]
 rcases hy with ⟨hw,hv⟩ | ⟨hw,rfl⟩
 ·rw[if_pos hw]
  refine ⟨fun _ _=>trivial,?_⟩
  rw[Oper.semAt_eq _ _ _ hc,hv w hT]
  exact h
 ·rw[if_neg (by rw[hw];simp)]
  exact ⟨fun _ _=>trivial,h⟩
theorem qy5 {T:World→Prop}{oj:Oper}{v:Value}(hj:ops[j]?=some oj)(hcj:∀ c,oj.op≠.defer c)(hap:oi.apart ops oj=true)(hsi:∀ cs b,oi.op≠.select cs b)(hsj:∀ cs b,oj.op≠.select cs b)(hQ:∀ c a w,Q (.panic c) (a.put oi.dst v) w→Q (.panic c) a w){K:Act→World→Prop}(hy:YI P ops T oi v a)(h:opK ro P ops Q j K (a.put oi.dst v) w) :
  opK ro P ops Q j (fun a' w'=>YI P ops T oi v a'∧K (a'.put oi.dst v) w') a w:=by
 obtain ⟨h1,h2,h3⟩:=Oper.apart_spec hap
 have keep:∀ (a:Act),YI P ops T oi v a→∀ u,YI P ops T oi v (a.put oj.dst u):=fun a hy u=>hy.of_same (execOp_put oi hsi a oj.dst u h3) (wanted_put oi a oj.dst u h3)
 unfold opK wpOpIn at *
 simp only[hj] at *
 rw[wanted_put oj a oi.dst v h1] at h
 split
 ·rename_i hw
  rw[if_pos hw] at h
  refine ⟨fun _ _=>trivial,?_⟩
  have h':=h.2
  rw[Oper.semAt_eq _ _ _ hcj] at h' ⊢
  rw[execOp_put oj hsj a oi.dst v h1] at h'
  generalize (execOp a.eval oj).run P w=x at h' ⊢
  cases x with
  | ok n w' =>
   cases n with
   | value u=>exact ⟨keep a hy u,by rw[← Act.put_comm a v u h2];exact h'⟩
   | skip=>exact ⟨keep a hy _,by rw[← Act.put_comm a v undef h2];exact h'⟩
   | defer d =>
    refine ⟨keep { a with defers:=d::a.defers } (hy.of_same rfl rfl) _,?_⟩
    rw[← Act.put_comm _ v undef h2,← Act.put_defers]
    exact h'
   | enter f args =>
    refine ⟨h'.1,h'.2.mono fun e w'' he=>?_⟩
    cases e with
    | returned u=>exact ⟨keep a hy u,by rw[← Act.put_comm a v u h2];exact he⟩
    | panicked c=>exact hQ _ _ _ he
    | outgrown=>exact he
   | row row args=>exact ⟨h'.1,h'.2.mono fun u w'' he=>⟨keep a hy u,by rw[← Act.put_comm a v u h2];exact he⟩⟩
   | round l f tmps asg body =>
    refine ⟨h'.1,h'.2.mono fun e w'' he=>?_⟩
    cases e with
    | returned u=>exact ⟨keep a hy u,by rw[← Act.put_comm a v u h2];exact he⟩
    | panicked c=>exact hQ _ _ _ he
    | outgrown=>exact he
   | _=>exact h'
  | halt x w'=>cases x <;> first | exact hQ _ _ _ h' | exact h'
 ·rename_i hw
  rw[if_neg hw] at h
  exact ⟨fun _ _=>trivial,keep a hy _,by rw[← Act.put_comm a v undef h2];exact h.2⟩
def Closed (ops:Array Oper)(done:Array Bool):Prop:=∀ d o,ops[d]?=some o→done.getD d true=true→∀ e∈o.after,Region.binds .any e=true→done.getD e.on false=true
def qof (ops:Array Oper)(done:Array Bool):Bool :=
 (List.range ops.size).all fun d=>!(done.getD d true) || (match ops[d]? with | some o=>o.after.all fun e=>!(Region.binds .any e) || done.getD e.on false | none=>true)
theorem qd6 {done:Array Bool}(h:qof ops done=true):Closed ops done:=by
 intro d o ho hd e he hb
 have hlt:=(Array.getElem?_eq_some_iff.1 ho).1
 have:=qC9.1 h d (List.mem_range.2 hlt)
 rw[hd,ho] at this
 simp only[qDl,Bool.false_or] at this
 have:=Array.all_eq_true_iff_forall_mem.1 this e he
 rw[hb] at this
 simpa using this
theorem Closed.step {done:Array Bool}(h:Closed ops done)(hj:j∈Region.ready .any ops done):Closed ops (done.setIfInBounds j true):=by
 intro d o ho hd e he hb
 obtain ⟨_,oj,hoj,hall⟩:=mem_ready.1 hj
 by_cases hjd:j=d
 ·subst hjd
  rw[ho] at hoj
  cases hoj
  exact getD_set_true (hall e he hb)
 ·rw[getD_set_ne true hjd] at hd
  exact getD_set_true (h d o ho hd e he hb)
def edgeB (ops:Array Oper)(c d:Nat):Bool:=match ops[d]? with | some o=>o.after.any fun e=>Region.binds .any e && e.on == c | none=>false
def chB (ops:Array Oper):Nat→List Nat→Nat→Bool
 | c,[],p=>c == p
 | c,d::ds,p=>edgeB ops c d && chB ops d ds p
theorem chain {done:Array Bool}(h:Closed ops done):∀ (ds:List Nat) (c p:Nat),chB ops c ds p=true→done.getD p true=true→done.getD c true=true
 | [],c,p,hc,hp=>by
  have:c=p:=by simpa[chB] using hc
  rw[this];exact hp
 | d::ds,c,p,hc,hp=>by
  simp only[chB,qC2] at hc
  have hd:=chain h ds d p hc.2 hp
  have he:=hc.1
  unfold edgeB at he
  cases ho:ops[d]? with
  | none=>rw[ho] at he;simp at he
  | some o =>
   rw[ho] at he
   simp only at he
   rw[Array.any_eq_true] at he
   obtain ⟨k,hk,hb⟩:=he
   simp only[qC2,beq_iff_eq] at hb
   have:=h d o ho hd o.after[k] (Array.getElem_mem hk) hb.1
   rw[hb.2] at this
   simp only[Array.getD_eq_getD_getElem?] at this ⊢
   cases hx:done[c]? with
   | none=>rw[hx] at this;simp at this
   | some b=>rw[hx] at this;simpa using this
theorem qcV {T:World→Prop}{S:Array Bool→World→Prop}{v:Value}(hi:ops[i]?=some oi)(hcalm:calmA ops=true)(hsel:∀ (j:Nat) (o:Oper) cs b,ops[j]?=some o→o.op≠.select cs b)(hQ:∀ c a w,Q (.panic c) (a.put oi.dst v) w→Q (.panic c) a w)(hST:∀ done w,done.getD i true=false→Closed ops done→S done w→T w)(hSi:∀ done w,S (done.setIfInBounds i true) w→S done w)(hSm:∀ done w,S done w→S (done.setIfInBounds i true) w) :
  ∀ (fuel:Nat) (done:Array Bool) (a:Act) (w:World),
   (∀ j oj,ops[j]?=some oj→j≠i→done.getD j true=false→(∀ e∈oj.after,Region.binds .any e=true→e.on≠i)→oi.apart ops oj=true) →
   i∈Region.ready .any ops done→Closed ops done→YI P ops T oi v a→S done w →
   anyK ro P ops Q S fuel (done.setIfInBounds i true) (a.put oi.dst v) w→anyK ro P ops Q S (fuel+1) done a w:=by
 intro fuel
 induction fuel with
 | zero =>
  intro done a w _ hr hcl hy hS H
  refine ⟨fun h=>(by rw[h] at hr;cases hr),fun j hj=>?_⟩
  by_cases hji:j=i
  ·subst hji
   exact hy.op hi (qiX hcalm hi) (hST _ _ (mem_ready.1 hr).1 hcl hS) ⟨hSm _ _ hS,H⟩
  ·have:=ready_mono hj hji
   rw[H.1] at this
   cases this
 | succ fuel ih =>
  intro done a w hfree hr hcl hy hS H
  refine ⟨fun h=>(by rw[h] at hr;cases hr),fun j hj=>?_⟩
  by_cases hji:j=i
  ·subst hji
   exact hy.op hi (qiX hcalm hi) (hST _ _ (mem_ready.1 hr).1 hcl hS) ⟨hSm _ _ hS,H⟩
  ·have h1:=H.2 j (ready_mono hj hji)
   obtain ⟨hjun,oj,hoj,hall⟩:=mem_ready.1 hj
   have hnot:∀ e∈oj.after,Region.binds .any e=true→e.on≠i:=fun e he hb heq=>by
    have h1:=hall e he hb
    have h0:=(mem_ready.1 hr).1
    rw[heq] at h1
    simp only[Array.getD_eq_getD_getElem?] at h0 h1
    cases hx:done[i]? with
    | none=>rw[hx] at h1;simp at h1
    | some b=>rw[hx] at h0 h1;simp at h0 h1;rw[h0] at h1;cases h1
   have h2:=qy5 hoj (qiX hcalm hoj) (hfree j oj hoj hji hjun hnot) (fun cs b=>hsel i oi cs b hi) (fun cs b=>hsel j oj cs b hoj) hQ hy h1
   have hfree':∀ k ok,ops[k]?=some ok→k≠i→(done.setIfInBounds j true).getD k true=false→(∀ e∈ok.after,Region.binds .any e=true→e.on≠i)→oi.apart ops ok=true:=fun k ok hk hki hun hno=>by
    refine hfree k ok hk hki ?_ hno
    by_cases hjk:j=k
    ·subst hjk;exact hjun
    ·rw[getD_set_ne true hjk] at hun;exact hun
   refine wpOpIn_mono (fun a' w' h3=>?_) h2
   have hS':S (done.setIfInBounds j true) w':=hSi _ _ (by rw[Array.setIfInBounds_comm _ _ hji];exact h3.2.1)
   refine ⟨hS',ih (done.setIfInBounds j true) a' w' hfree' (ready_mono hr (Ne.symm hji)) (hcl.step hj) h3.1 hS' ?_⟩
   rw[Array.setIfInBounds_comm _ _ hji]
   exact h3.2.2
variable {Bs:List BlkD}{Fs:List (World→Prop)}{ps:List Nat}
def Sh (ps:List Nat)(Bs:List BlkD)(Fs:List (World→Prop))(done:Array Bool)(w:World):Prop:=(∀ b∈Bs,b.is w)∧((∀ p∈ps,done.getD p true=false)→∀ φ∈Fs,φ w)
def SXB (P:Program)(ro:Option Nat)(ps:List Nat)(n:Nat)(D:List Deferred)(M0:List Nat)(w0:World)(Q:Exit→Act→World→Prop){ρ:Type}(ops:Array Oper)(Bs:List BlkD)(Fs:List (World→Prop))(fuel:Nat)(done:Array Bool)
  (l:Env) (B:List BlkD) (R:List RowD) (F:List (World→Prop)) (m:Option ρ) (r:ρ):Prop :=
 m=some r→∀ a w,Fr n D a l→Hp M0 w0 w B R F→Sh ps Bs Fs done w→anyK ro P ops Q (Sh ps Bs Fs) fuel done a w
theorem qf:∀ φ∈([]:List (World→Prop)),φ∈F∨(∃ rd∈R,∀ w,Cells rd.v rd.n rd.size rd.cs w→φ w)∨∃ b∈B,∀ w,b.is w→φ w:=by simp
theorem qg {φ:World→Prop}{r:List (World→Prop)}(j:Nat)(h:F[j]?=some φ)(hr:∀ φ∈r,φ∈F∨(∃ rd∈R,∀ w,Cells rd.v rd.n rd.size rd.cs w→φ w)∨∃ b∈B,∀ w,b.is w→φ w) :
  ∀ ψ∈(φ::r),ψ∈F∨(∃ rd∈R,∀ w,Cells rd.v rd.n rd.size rd.cs w→ψ w)∨∃ b∈B,∀ w,b.is w→ψ w:=by
 intro p hp
 rcases qCu.1 hp with rfl | hp
 ·exact .inl (qCq h)
 ·exact hr p hp
theorem qE {φ:World→Prop}{r:List (World→Prop)}(j:Nat){rd:RowD}(h:R[j]?=some rd)(hφ:∀ w,Cells rd.v rd.n rd.size rd.cs w→φ w)(hr:∀ φ∈r,φ∈F∨(∃ rd∈R,∀ w,Cells rd.v rd.n rd.size rd.cs w→φ w)∨∃ b∈B,∀ w,b.is w→φ w) :
  ∀ ψ∈(φ::r),ψ∈F∨(∃ rd∈R,∀ w,Cells rd.v rd.n rd.size rd.cs w→ψ w)∨∃ b∈B,∀ w,b.is w→ψ w:=by
 intro p hp
 rcases qCu.1 hp with rfl | hp
 ·exact .inr (.inl ⟨rd,qCq h,hφ⟩)
 ·exact hr p hp
theorem qgV {r:List (World→Prop)}(j:Nat){b:BlkD}(h:B[j]?=some b)(hr:∀ φ∈r,φ∈F∨(∃ rd∈R,∀ w,Cells rd.v rd.n rd.size rd.cs w→φ w)∨∃ b∈B,∀ w,b.is w→φ w) :
  ∀ ψ∈(b.is::r),ψ∈F∨(∃ rd∈R,∀ w,Cells rd.v rd.n rd.size rd.cs w→ψ w)∨∃ b∈B,∀ w,b.is w→ψ w:=by
 intro p hp
 rcases qCu.1 hp with rfl | hp
 ·exact .inr (.inr ⟨b,qCq h,fun _ h=>h⟩)
 ·exact hr p hp
theorem qdN (hp:Hp M0 w0 w B R F)(hB:Pick B Bs)(hF:∀ φ∈Fs,φ∈F∨(∃ rd∈R,∀ w,Cells rd.v rd.n rd.size rd.cs w→φ w)∨∃ b∈B,∀ w,b.is w→φ w):Stay Bs Fs w:=by
 have h:=hp.pick (B':=Bs) (R':=[]) (F':=[]) hB .nil (by simp)
 refine ⟨h.blk,fun φ hφ=>?_⟩
 rcases hF φ hφ with h1 | ⟨rd,h1,h2⟩ | ⟨b,h1,h2⟩
 ·exact (hp.per φ h1).here
 ·exact h2 w (zr (hp.row rd h1))
 ·exact h2 w (hp.blk b h1)
theorem kD {id:Nat}{os:List Oper}(hm:P.follows .mixedOrders=true)(ps:List Nat)(Bs:List BlkD)(Fs:List (World→Prop))(hB:Pick B Bs)(hF:∀ φ∈Fs,φ∈F∨(∃ rd∈R,∀ w,Cells rd.v rd.n rd.size rd.cs w→φ w)∨∃ b∈B,∀ w,b.is w→φ w)(k:Nat)(hk:os.length=k)(h:SXB P ro ps n D M0 w0 (yH Q) os.toArray Bs Fs k (Array.replicate k false) l B R F m r):SXC P ro n D M0 w0 Q (.region id os.toArray true) l B R F m r:=by
 intro hmm a w hf hp
 refine qjA (Q:=yH Q) (wpIn_region_any hm ?_) fun e a w hq=>?_
 ·have hp':Hp M0 w0 { w with drawn:=w.drawn+1 } B R F:=hp.step (Keeps.of_heap rfl rfl rfl rfl)
  have:=h hmm a _ hf hp' ⟨(qdN hp' hB hF).1,fun _=>(qdN hp' hB hF).2⟩
  refine qiW (S:=Sh ps Bs Fs) _ _ _ _ ?_
  simpa[hk] using this
 ·cases e <;> first | exact hq | exact hq.elim
def chsB (ops:Array Oper)(i:Nat):List (List Nat)→List Nat→Bool
 | [],[]=>true
 | c::cs,p::ps=>chB ops i c p && chsB ops i cs ps
 | _,_=>false
theorem qsS {i:Nat}{done:Array Bool}(hcl:Closed ops done)(hd:done.getD i true=false):∀ (cs:List (List Nat)) (ps:List Nat),chsB ops i cs ps=true→∀ p∈ps,done.getD p true=false
 | [],[],_,p,hp=>by simp at hp
 | c::cs,q::ps,h,p,hp=>by
  simp only[chsB,qC2] at h
  rcases qCu.1 hp with rfl | hp
  ·cases hx:done.getD p true with
   | false=>rfl
   | true=>rw[chain hcl c i p h.1 hx] at hd;exact hd
  ·exact qsS hcl hd cs ps h.2 p hp
 | [],_::_,h,_,_=>by simp[chsB] at h
 | _::_,[],h,_,_=>by simp[chsB] at h
theorem Sh.set {done:Array Bool}(hi:ps.contains i=false):Sh ps Bs Fs (done.setIfInBounds i true) w↔Sh ps Bs Fs done w:=by
 have key:∀ p∈ps,(done.setIfInBounds i true).getD p true=done.getD p true:=fun p hp=>getD_set_ne true (by rintro rfl;simp[hp] at hi)
 unfold Sh
 constructor
 ·intro h;exact ⟨h.1,fun h2=>h.2 fun p hp=>by rw[key p hp];exact h2 p hp⟩
 ·intro h;exact ⟨h.1,fun h2=>h.2 fun p hp=>by rw[← key p hp];exact h2 p hp⟩
def okP (ops:Array Oper)(ps:List Nat)(done:Array Bool)(i d n:Nat):Bool :=
 calmA ops && (Region.noSelect ops && (Region.free .any ops done i && ((Region.ready .any ops done).contains i && (qof ops done && (!ps.contains i && Nat.blt d n)))))
theorem qhk {done:Array Bool}(h:okP ops ps done i d n=true):calmA ops=true∧Region.noSelect ops=true∧Region.free .any ops done i=true∧(Region.ready .any ops done).contains i=true∧qof ops done=true∧ps.contains i=false∧Nat.blt d n=true:=by
 unfold okP at h
 rw[qC2,qC2,qC2,qC2,qC2,qC2] at h
 exact ⟨h.1,h.2.1,h.2.2.1,h.2.2.2.1,h.2.2.2.2.1,by simpa using h.2.2.2.2.2.1,h.2.2.2.2.2.2⟩
theorem qy {done:Array Bool}(i:Nat)(V:Value)(cs:List (List Nat))(ho:ops[i]?=some o)(hd:o.dst=some d)(hw:wants ops l o=some true)(hy:Yv P l Bs Fs o V)(h:SXB P ro ps n D M0 w0 (yH Q) ops Bs Fs fuel (done.setIfInBounds i true) ((d,V)::l) B R F m r)(hk:okP ops ps done i d n=true:=by kernel_rfl)(hch:chsB ops i cs ps=true:=by kernel_rfl):SXB P ro ps n D M0 w0 (yH Q) ops Bs Fs (fuel+1) done l B R F m r:=by
 intro hm a w hf hp hS
 obtain ⟨hca,hs,hfr,hr,hcl,hni,hdn⟩:=qhk hk
 refine qcV (S:=Sh ps Bs Fs) (T:=Stay Bs Fs) (v:=V) ho hca (Region.noSelect_spec hs) (fun c a w h=>h) (fun done w h1 h2 h3=>⟨h3.1,h3.2 (qsS h2 h1 cs ps hch)⟩) (fun _ _ h=>(Sh.set hni).1 h) (fun _ _ h=>(Sh.set hni).2 h) fuel done a w (Region.free_spec ho hfr) (by simpa using hr) (qd6 hcl)
  (.inl ⟨zu hf hw,fun w' hS'=>hy n D a w' hf hS'⟩) hS ?_
 rw[hd]
 exact h hm _ _ (hf.put hdn _) hp ((Sh.set hni).2 hS)
theorem qB {done:Array Bool}(i:Nat)(V:Value)(ho:ops[i]?=some o)(hd:o.dst=some d)(hw:wants ops l o=some true)(hy:Yv P l Bs [] o V)(h:SXB P ro ps n D M0 w0 (yH Q) ops Bs Fs fuel (done.setIfInBounds i true) ((d,V)::l) B R F m r)(hk:okP ops ps done i d n=true:=by kernel_rfl):SXB P ro ps n D M0 w0 (yH Q) ops Bs Fs (fuel+1) done l B R F m r:=by
 intro hm a w hf hp hS
 obtain ⟨hca,hs,hfr,hr,hcl,hni,hdn⟩:=qhk hk
 refine qcV (S:=Sh ps Bs Fs) (T:=fun w=>∀ b∈Bs,b.is w) (v:=V) ho hca (Region.noSelect_spec hs) (fun c a w h=>h) (fun _ _ _ _ h=>h.1) (fun _ _ h=>(Sh.set hni).1 h) (fun _ _ h=>(Sh.set hni).2 h) fuel done a w (Region.free_spec ho hfr) (by simpa using hr) (qd6 hcl)
  (.inl ⟨zu hf hw,fun w' h=>hy n D a w' hf ⟨h,by simp⟩⟩) hS ?_
 rw[hd]
 exact h hm _ _ (hf.put hdn _) hp ((Sh.set hni).2 hS)
theorem qb {done:Array Bool}(i:Nat)(V:Value)(ho:ops[i]?=some o)(hd:o.dst=some d)(hw:wants ops l o=some true)(hy:Yv P l [] [] o V)(h:SXB P ro ps n D M0 w0 (yH Q) ops Bs Fs fuel (done.setIfInBounds i true) ((d,V)::l) B R F m r)(hk:okP ops ps done i d n=true:=by kernel_rfl):SXB P ro ps n D M0 w0 (yH Q) ops Bs Fs (fuel+1) done l B R F m r:=by
 intro hm a w hf hp hS
 obtain ⟨hca,hs,hfr,hr,hcl,hni,hdn⟩:=qhk hk
 refine qcV (S:=Sh ps Bs Fs) (T:=fun _=>True) (v:=V) ho hca (Region.noSelect_spec hs) (fun c a w h=>h) (fun _ _ _ _ _=>trivial) (fun _ _ h=>(Sh.set hni).1 h) (fun _ _ h=>(Sh.set hni).2 h) fuel done a w (Region.free_spec ho hfr) (by simpa using hr) (qd6 hcl)
  (.inl ⟨zu hf hw,fun w' _=>hy n D a w' hf ⟨by simp,by simp⟩⟩) hS ?_
 rw[hd]
 exact h hm _ _ (hf.put hdn _) hp ((Sh.set hni).2 hS)
theorem qxy {done:Array Bool}(i:Nat)(ho:ops[i]?=some o)(hd:o.dst=some d)(hw:wants ops l o=some false)(h:SXB P ro ps n D M0 w0 (yH Q) ops Bs Fs fuel (done.setIfInBounds i true) ((d,undef)::l) B R F m r)(hk:okP ops ps done i d n=true:=by kernel_rfl):SXB P ro ps n D M0 w0 (yH Q) ops Bs Fs (fuel+1) done l B R F m r:=by
 intro hm a w hf hp hS
 obtain ⟨hca,hs,hfr,hr,hcl,hni,hdn⟩:=qhk hk
 refine qcV (S:=Sh ps Bs Fs) (T:=fun _=>True) (v:=undef) ho hca (Region.noSelect_spec hs) (fun c a w h=>h) (fun _ _ _ _ _=>trivial) (fun _ _ h=>(Sh.set hni).1 h) (fun _ _ h=>(Sh.set hni).2 h) fuel done a w (Region.free_spec ho hfr) (by simpa using hr) (qd6 hcl)
  (.inr ⟨zu hf hw,rfl⟩) hS ?_
 rw[hd]
 exact h hm _ _ (hf.put hdn _) hp ((Sh.set hni).2 hS)
theorem qBw {done:Array Bool}{c:Bool}{m1 m2:Option ρ}(h1:c=true→SXB P ro ps n D M0 w0 Q ops Bs Fs fuel done l B R F m1 r)(h2:c=false→SXB P ro ps n D M0 w0 Q ops Bs Fs fuel done l B R F m2 r) :
  SXB P ro ps n D M0 w0 Q ops Bs Fs fuel done l B R F (if c then m1 else m2) r:=by
 intro hm
 cases c
 ·exact h2 rfl (by simpa using hm)
 ·exact h1 rfl (by simpa using hm)
theorem zW {done:Array Bool}{u v:Value}(hu:look l d=some u)(he:u=v)(h:SXB P ro ps n D M0 w0 Q ops Bs Fs fuel done ((d,v)::l) B R F m r):SXB P ro ps n D M0 w0 Q ops Bs Fs fuel done l B R F m r :=
 fun hm a w hf hp hS=>h hm a w (hf.again hu he) hp hS
theorem qg1 {done:Array Bool}(hr:Region.ready .any ops done=[])(h:SXQ n D M0 w0 Q .normal l B R F m r):SXB P ro ps n D M0 w0 Q ops Bs Fs fuel done l B R F m r :=
 fun hm a w hf hp _=>by
  have h1:=h hm a w hf hp
  cases fuel with
  | zero=>exact ⟨hr,h1⟩
  | succ fuel=>exact ⟨fun _=>h1,by rw[hr];simp⟩
theorem qg2 {done done':Array Bool}(i:Nat)(ho:ops[i]?=some o)(hr:Region.ready .any ops done=[i])(hdone:done.setIfInBounds i true=done')(h:SXO P ro n D M0 w0 (Exit.then (fun a w=>Sh ps Bs Fs done' w∧anyK ro P ops Q (Sh ps Bs Fs) fuel done' a w) Q) ops [o] l B R F m r):SXB P ro ps n D M0 w0 Q ops Bs Fs (fuel+1) done l B R F m r:=by
 intro hm a w hf hp hS
 refine ⟨fun h0=>(by rw[hr] at h0;cases h0),fun j hj=>?_⟩
 rw[hr] at hj
 simp only[qCI] at hj
 subst hj
 have h1:=h hm a w hf hp
 rw[hdone]
 unfold kC wpListIn at h1
 unfold opK wpOpIn
 simp only[ho]
 split
 ·rename_i hw
  rw[if_pos hw] at h1
  refine ⟨fun _ _=>trivial,?_⟩
  exact Oper.uponIn_mono (fun a w h=>h) (fun c a w h=>h) (fun h=>h) _ h1.2
 ·rename_i hw
  rw[if_neg hw] at h1
  exact ⟨fun _ _=>trivial,h1.2⟩
theorem qc {done:Array Bool}{K:Exit→Act→World→Prop}(hB:Pick B Bs)(hF:∀ φ∈Fs,φ∈F∨(∃ rd∈R,∀ w,Cells rd.v rd.n rd.size rd.cs w→φ w)∨∃ b∈B,∀ w,b.is w→φ w)(h:SXB P ro ps n D M0 w0 Q ops Bs Fs fuel done l B R F m r) :
  SXQ n D M0 w0 (Exit.then (fun a w=>Sh ps Bs Fs done w∧anyK ro P ops Q (Sh ps Bs Fs) fuel done a w) K) .normal l B R F m r :=
 fun hm a w hf hp=>⟨⟨(qdN hp hB hF).1,fun _=>(qdN hp hB hF).2⟩,h hm a w hf hp ⟨(qdN hp hB hF).1,fun _=>(qdN hp hB hF).2⟩⟩
theorem kY {done:Array Bool}{K:Exit→Act→World→Prop}(p:Nat)(hp:ps.contains p=true)(hd:done.getD p true=true)(hB:Pick B Bs)(h:SXB P ro ps n D M0 w0 Q ops Bs Fs fuel done l B R F m r) :
  SXQ n D M0 w0 (Exit.then (fun a w=>Sh ps Bs Fs done w∧anyK ro P ops Q (Sh ps Bs Fs) fuel done a w) K) .normal l B R F m r:=by
 intro hm a w hf hpp
 have hv:Sh ps Bs Fs done w:=⟨(qdN (Fs:=[]) hpp hB (by simp)).1,fun h=>by
  have:=h p (by simpa using hp)
  rw[hd] at this
  cases this⟩
 exact ⟨hv,h hm a w hf hpp hv⟩
theorem kX {d:Option Tmp}{e:TypeId}{size g o:Nat}{cs:List Value}{V:Value}(hx:ev l x=some (.pointer (some ⟨g,o,none⟩)))(hT:TyF P t' agg z size bytes)(hF:F[j]?=some (BlkD.is ⟨g,e,cs⟩))(hl:((cs.drop o).take size).length=size)(hs:agg=false→size=1)(hV:(if agg then .agg ((cs.drop o).take size).toArray else ((cs.drop o).take size).getD 0 undef)=V) :
  Yv P l B F ⟨d,.load t' x,t,pos,af,gd⟩ V:=fun n D a w hf hp =>
 qz (B:=[⟨g,e,cs⟩]) (F:=[]) (i:=0) hx hT rfl hl hs hV n D a w hf ⟨fun b hb=>by rw[qCI] at hb;subst hb;exact hp.2 _ (qCq hF),by simp⟩
theorem qcb {x:Code}{enc:α→List Value}{e size:Nat}{k:α→Option ρ}{i:Int}(hR:R[j]?=some (Ro enc e size (.slice ao xs.length c) xs))(h:∀ y,idx xs i=some y→∀ g,ao=some ⟨g,0,none⟩→SXC P ro n D M0 w0 Q x l B R F (k y) r) :
  SXC P ro n D M0 w0 Q x l B R F ((idx xs i).bind k) r:=by
 intro hm a w hf hp
 cases hq:idx xs i with
 | none=>rw[hq] at hm;simp at hm
 | some y =>
  rw[hq] at hm
  have hm':k y=some r:=by simpa using hm
  obtain ⟨_,hlt,_⟩:=qu hq
  have hown:=hp.row _ (qCq hR)
  rcases hown.2 with ⟨h5,h6⟩ | ⟨g,cap,cur,h5,_⟩
  ·have h6':xs.length=0:=h6
   omega
  ·have h5':Value.slice ao xs.length c=.slice (some ⟨g,0,none⟩) xs.length cap:=h5
   simp only[Value.slice.injEq] at h5'
   exact h y hq g h5'.1 hm' a w hf hp
theorem qo {enc:α→List Value}{size:Nat}{i:Int}{y:α}{g e:Nat}(henc:EncOk enc size)(hy:idx xs i=some y)(ha:ao=some ⟨g,0,none⟩) :
  ∀ w,Cells (Ro enc e size (.slice ao xs.length c) xs).v (Ro enc e size (.slice ao xs.length c) xs).n (Ro enc e size (.slice ao xs.length c) xs).size (Ro enc e size (.slice ao xs.length c) xs).cs w→yG g (i.toNat*size) (enc y) w:=by
 intro w h jj u hj
 obtain ⟨⟨ao',cap',hv',_,_,_,hc'⟩,_⟩:=(h:Cells (.slice ao xs.length c) xs.length size (xs.flatMap enc) w)
 have hv2:Value.slice ao xs.length c=.slice ao' xs.length cap':=hv'
 simp only[Value.slice.injEq] at hv2
 obtain ⟨rfl,-,-⟩:=hv2
 obtain ⟨_,_,hget⟩:=qu hy
 obtain ⟨ad',h3,h4⟩:=hc' (i.toNat*size+jj) u (vf henc xs i.toNat y jj u hget hj)
 rw[ha] at h3
 simp only[qCy] at h3
 subst h3
 rw[← h4]
 simp
theorem qbS {ix:Operand}{ki:IntKind}{i:Int}{b0 k:Nat}{e:TypeId}{size:Nat}(ht:P.underlying t'=some (.slice e))(hT:TyF P e agg z size bytes)(hx:ev l x=some (.slice (some ⟨b0,0,none⟩) k c))(hi:ev l ix=some (.int ki i))(h0:0≤i)(hlt:i<(k:Int)) :
  Yv P l B F ⟨some d,.indexAddr t' x ix,t,pos,af,gd⟩ (.pointer (some ⟨b0,i.toNat*size,none⟩)):=by
 have:=qyk (B:=B) (F:=F) (d:=some d) (t:=t) (pos:=pos) (af:=af) (gd:=gd) ht hT hx hi h0 hlt
 rw[qDg] at this
 exact this
theorem zM {g k:Nat}(ha:ao=some ⟨g,0,none⟩):(Value.slice ao k c).ownBlock=some g:=by rw[ha];rfl
theorem kz {enc:α→List Value}{e:TypeId}{size g:Nat}{V:Value}{y':α}{k:List α→Option ρ}(henc:EncOk enc size)(hw:wants ops l ⟨none,.store t' x y,t,pos,af,gd⟩=some true)(hx:ev l x=some (.pointer (some ⟨g,i*size,none⟩)))(hy:ev l y=some V)(hT:TyF P t' agg z size bytes)(hR:R[j]?=some (Ro enc e size (.slice ao xs.length c) xs))(hg:(Value.slice ao xs.length c).ownBlock=some g)(hi:i<xs.length)(hV:V.cells.toList=enc y')(h:∀ ys,xs.set i y'=ys→Value.slice ao xs.length c=.slice ao ys.length c→SXO P ro n D M0 w0 Q ops rest l B (Ro enc e size (.slice ao ys.length c) ys::R.eraseIdx j) F (k ys) r) :
  SXO P ro n D M0 w0 Q ops (⟨none,.store t' x y,t,pos,af,gd⟩::rest) l B R F (lett (xs.set i y') k) r:=by
 have hl:(xs.set i y').length=xs.length:=qCJ
 have hv:Value.slice ao xs.length c=.slice ao (xs.set i y').length c:=by rw[hl]
 have h1:=h _ rfl hv
 rw[← hv] at h1
 exact qmk henc hw hx hy hT hR hg hi hV h1
theorem q5 {g e:Nat}{cs cs':List Value}(hB:B[i]?=some ⟨g,e,cs⟩)(he:cs=cs')(h:SXO P ro n D M0 w0 Q ops rest l (B.set i ⟨g,e,cs'⟩) R F m r):SXO P ro n D M0 w0 Q ops rest l B R F m r:=by
 subst he
 have:B.set i ⟨g,e,cs⟩=B:=by
  apply qDb
  intro j
  rw[qDB]
  split
  ·rename_i hij;subst hij;split
   ·exact hB.symm
   ·rename_i h2;simp at h2;simp[h2]
  ·rfl
 rw[this] at h
 exact h
theorem qmR {e:TypeId}(ht:P.underlying t=some (.slice e))(ao:Option Addr)(k c:Nat)(w:World):(Op.equal t (.slice ao k c) (.slice none 0 0)).run P w=.ok ao.isNone w:=by
 have:∀ d,(Op.equalIn (d+1) t (.slice ao k c) (.slice none 0 0)).run P w=.ok ao.isNone w:=fun d=>by
  unfold Op.equalIn
  rw[Sem.run_bind,run_underlying ht]
  cases ao <;> rfl
 exact this 9999
theorem qu9 {yt e:TypeId}{k:Nat}(hw:wants ops l ⟨some d,.binOp .eql xt x y yt,t,pos,af,gd⟩=some true)(ht:P.underlying xt=some (.slice e))(hx:ev l x=some (.slice ao k c))(hy:ev l y=some (.slice none 0 0))(hd:Nat.blt d n=true)(h:SXO P ro n D M0 w0 Q ops rest ((d,.bool ao.isNone)::l) B R F m r):SXO P ro n D M0 w0 Q ops (⟨some d,.binOp .eql xt x y yt,t,pos,af,gd⟩::rest) l B R F m r :=
 qP (.bool ao.isNone) hw rfl hd (fun a w hf _=>by
  have h1:=hf.ev hx
  have h2:=hf.ev hy
  have he:=qmR ht ao k c w
  generalize a.eval=e at h1 h2 ⊢
  generalize hq:Op.equal xt (.slice ao k c) (.slice none 0 0)=q at he
  simp[execOp,h1,h2,eqGuard,binOp,hq,he,go_sem]) h
theorem qqS {x:Code}{enc:α→List Value}{size:Nat}(j:Nat)(henc:EncOk enc size)(hs:size≠0)(hF:F[j]?=some (Sl enc size (.slice ao xs.length c) xs))(ha:ao.isNone=true)(h:xs=[]→SXC P ro n D M0 w0 Q x l B R F m r):SXC P ro n D M0 w0 Q x l B R F m r:=by
 intro hm a w hf hp
 refine h ?_ hm a w hf hp
 have hnec:=hp.per _ (qCq hF)
 obtain ⟨⟨ao',cap,hv,_,_,_,hc⟩,hlen⟩:=(hnec.here:Cells (.slice ao xs.length c) xs.length size (xs.flatMap enc) w)
 cases xs with
 | nil=>rfl
 | cons y ys =>
  have hne:0<((y::ys).flatMap enc).length:=by
   have:=henc.len y
   simp only[qCz,qCt]
   omega
  obtain ⟨ad,h1,_⟩:=hc 0 _ (qCn hne)
  simp only[Value.slice.injEq] at hv
  obtain ⟨rfl,_,_⟩:=hv
  rw[h1] at ha
  simp at ha
theorem qsj {ix:Operand}{s:ByteArray}{ki:IntKind}{i:Int}{k:Int→Option ρ}{xs:List Int}(hw:wants ops l ⟨some d,.index xt x ix,t,pos,af,gd⟩=some true)(ht:P.underlying xt=some .string)(hx:ev l x=some (.string s))(hi:ev l ix=some (.int ki i))(hs:s.data.toList.map (fun b=>(b.toNat:Int))=xs)(hd:Nat.blt d n=true)(h:∀ y,idx xs i=some y→SXO P ro n D M0 w0 Q ops rest ((d,.int .u8 y)::l) B R F (k y) r) :
  SXO P ro n D M0 w0 Q ops (⟨some d,.index xt x ix,t,pos,af,gd⟩::rest) l B R F ((idx xs i).bind k) r:=by
 refine k6 hw fun hm a w hf hp=>?_
 cases hq:idx xs i with
 | none=>rw[hq] at hm;simp at hm
 | some y =>
  rw[hq] at hm
  have hm':k y=some r:=by simpa using hm
  obtain ⟨h0,hlt,hy⟩:=qu hq
  obtain ⟨I,rfl⟩:=qCp h0
  have hy':xs[I]?=some y:=hy
  rw[← hs,qDv] at hy'
  cases hb:s.data.toList[I]? with
  | none=>rw[hb] at hy';simp at hy'
  | some b =>
   rw[hb] at hy'
   simp only[qDk,qCy] at hy'
   have hb':s[I]?=some b:=by
    have h1:=(qCx.1 hb)
    obtain ⟨h2,h3⟩:=h1
    have h4:I<s.size:=by rw[Array.length_toList] at h2;exact h2
    rw[getElem?_pos s I h4]
    exact congrArg some h3
   refine ⟨.int .u8 y,w,?_,h y hq hm' _ _ (hf.put hd _) hp⟩
   have h1:=hf.ev hx
   have h2:=hf.ev hi
   generalize a.eval=ε at h1 h2 ⊢
   simp[execOp,h1,h2,Instr.index,asIntOf,run_underlying ht,hb',hy']
def imin (a b:Int):Int:=if b<a then b else a
def imax (a b:Int):Int:=if a<b then b else a
theorem qsE {k:IntKind}{a b:Int}{d:Option Tmp}(hx:ev l x=some (.int k a))(hy:ev l y=some (.int k b)):Yv P l B F ⟨d,.call ⟨.builtin .min,#[x,y],tys⟩,t,pos,af,gd⟩ (.int k (imin a b)):=fun n D ac w hf _=>by
 have h1:=hf.ev hx
 have h2:=hf.ev hy
 generalize ac.eval=e at h1 h2 ⊢
 simp[h1,h2,Builtin.min_,Builtin.min2,imin,go_sem]
theorem qBI {k:IntKind}{a b:Int}{d:Option Tmp}(hx:ev l x=some (.int k a))(hy:ev l y=some (.int k b)):Yv P l B F ⟨d,.call ⟨.builtin .max,#[x,y],tys⟩,t,pos,af,gd⟩ (.int k (imax a b)):=fun n D ac w hf _=>by
 have h1:=hf.ev hx
 have h2:=hf.ev hy
 generalize ac.eval=e at h1 h2 ⊢
 simp[h1,h2,Builtin.max_,Builtin.max2,imax,go_sem]
theorem qdR {parts:Array (Nat×Operand)}{vs:List (Nat×Value)}{places:List (Nat×Nat)}{cells:List Value}{d:Option Tmp}(hS:StF P t' places z)(hp:evParts l parts.toList=some vs)(hfill:Instr.fill (places.toArray[·]?) z.cells vs=some cells.toArray):Yv P l B F ⟨d,.build t' parts,t,pos,af,gd⟩ (.agg cells.toArray):=fun n D a w hf _=>by
 have hpe:=hf.evParts hp
 have hpa:(parts.map fun p=>(p.1,a.eval p.2))=vs.toArray:=by rw[← hpe,← Array.toList_map,Array.toArray_toList]
 obtain ⟨fs,hu,hpl,hin⟩:=hS.out
 obtain ⟨i,hi,hz⟩:=hS.zero
 have hm:=qlO (P:=P) (w:=w) fs.toList hin
 rw[hpl] at hm
 have hm':(fs.mapM (fun f=>Functor.map (Prod.mk f.offset) (Go.sizeOf f.type)):Sem (Array (Nat×Nat))).run P w=.ok places.toArray w:=by
  rw[Array.mapM_eq_mapM_toList]
  generalize (fs.toList.mapM (fun f=>Functor.map (Prod.mk f.offset) (Go.sizeOf f.type)):Sem (List (Nat×Nat)))=q at hm
  simp[hm]
 generalize a.eval=ε at hpa ⊢
 simp only[execOp,hpa,Instr.build]
 have hfill':Instr.fill (fun x=>places.toArray[x]?) z.cells vs=some cells.toArray:=hfill
 generalize hq:(fs.mapM (fun f=>Functor.map (Prod.mk f.offset) (Go.sizeOf f.type)):Sem (Array (Nat×Nat)))=q at hm'
 simp[zeroValue,typeInfo,hi,hz,run_underlying hu,hq,hm']
 simp only[qEF] at hfill'
 rw[hfill']
 simp
theorem qzC {k:IntKind}{a b:Int}(hw:wants ops l ⟨some d,.call ⟨.builtin .min,#[x,y],tys⟩,t,pos,af,gd⟩=some true)(hx:ev l x=some (.int k a))(hy:ev l y=some (.int k b))(hd:Nat.blt d n=true)(h:SXO P ro n D M0 w0 Q ops rest ((d,.int k (imin a b))::l) B R F m r):SXO P ro n D M0 w0 Q ops (⟨some d,.call ⟨.builtin .min,#[x,y],tys⟩,t,pos,af,gd⟩::rest) l B R F m r :=
 qP _ hw rfl hd (fun a w hf _=>qsE (B:=[]) (F:=[]) hx hy n D a w hf ⟨by simp,by simp⟩) h
theorem qzB {k:IntKind}{a b:Int}(hw:wants ops l ⟨some d,.call ⟨.builtin .max,#[x,y],tys⟩,t,pos,af,gd⟩=some true)(hx:ev l x=some (.int k a))(hy:ev l y=some (.int k b))(hd:Nat.blt d n=true)(h:SXO P ro n D M0 w0 Q ops rest ((d,.int k (imax a b))::l) B R F m r):SXO P ro n D M0 w0 Q ops (⟨some d,.call ⟨.builtin .max,#[x,y],tys⟩,t,pos,af,gd⟩::rest) l B R F m r :=
 qP _ hw rfl hd (fun a w hf _=>qBI (B:=[]) (F:=[]) hx hy n D a w hf ⟨by simp,by simp⟩) h
theorem qeE {m':Option ρ}(h:m=m')(hs:SXO P ro n D M0 w0 Q ops rest l B R F m' r):SXO P ro n D M0 w0 Q ops rest l B R F m r:=h▸hs
theorem yZ {done di dj:Array Bool}(i j:Nat){oj:Oper}(hoi:ops[i]?=some oi)(hoj:ops[j]?=some oj)(hr:Region.ready .any ops done=[i,j])(hdi:done.setIfInBounds i true=di)(hdj:done.setIfInBounds j true=dj)(h1:SXO P ro n D M0 w0 (Exit.then (fun a w=>Sh ps Bs Fs di w∧anyK ro P ops Q (Sh ps Bs Fs) fuel di a w) Q) ops [oi] l B R F m r)(h2:SXO P ro n D M0 w0 (Exit.then (fun a w=>Sh ps Bs Fs dj w∧anyK ro P ops Q (Sh ps Bs Fs) fuel dj a w) Q) ops [oj] l B R F m r):SXB P ro ps n D M0 w0 Q ops Bs Fs (fuel+1) done l B R F m r:=by
 intro hm a w hf hp hS
 refine ⟨fun h0=>(by rw[hr] at h0;cases h0),fun q hq=>?_⟩
 have key:∀ (q:Nat) (o:Oper) (d':Array Bool),ops[q]?=some o→done.setIfInBounds q true=d' →
   SXO P ro n D M0 w0 (Exit.then (fun a w=>Sh ps Bs Fs d' w∧anyK ro P ops Q (Sh ps Bs Fs) fuel d' a w) Q) ops [o] l B R F m r →
   opK ro P ops Q q (fun a' w'=>Sh ps Bs Fs (done.setIfInBounds q true) w'∧anyK ro P ops Q (Sh ps Bs Fs) fuel (done.setIfInBounds q true) a' w') a w:=by
  intro q o d' ho hd h
  have h1:=h hm a w hf hp
  rw[hd]
  unfold kC wpListIn at h1
  unfold opK wpOpIn
  simp only[ho]
  split
  ·rename_i hw
   rw[if_pos hw] at h1
   refine ⟨fun _ _=>trivial,?_⟩
   exact Oper.uponIn_mono (fun a w h=>h) (fun c a w h=>h) (fun h=>h) _ h1.2
  ·rename_i hw
   rw[if_neg hw] at h1
   exact ⟨fun _ _=>trivial,h1.2⟩
 rw[hr] at hq
 rcases qCu.1 hq with rfl | hq
 ·exact key _ _ _ hoi hdi h1
 ·rcases qCu.1 hq with rfl | hq
  ·exact key _ _ _ hoj hdj h2
  ·cases hq
theorem qnz {done di dj dk:Array Bool}(i j k:Nat){oj ok:Oper}(hoi:ops[i]?=some oi)(hoj:ops[j]?=some oj)(hok:ops[k]?=some ok)(hr:Region.ready .any ops done=[i,j,k])(hdi:done.setIfInBounds i true=di)(hdj:done.setIfInBounds j true=dj)(hdk:done.setIfInBounds k true=dk)(h1:SXO P ro n D M0 w0 (Exit.then (fun a w=>Sh ps Bs Fs di w∧anyK ro P ops Q (Sh ps Bs Fs) fuel di a w) Q) ops [oi] l B R F m r)(h2:SXO P ro n D M0 w0 (Exit.then (fun a w=>Sh ps Bs Fs dj w∧anyK ro P ops Q (Sh ps Bs Fs) fuel dj a w) Q) ops [oj] l B R F m r)(h3:SXO P ro n D M0 w0 (Exit.then (fun a w=>Sh ps Bs Fs dk w∧anyK ro P ops Q (Sh ps Bs Fs) fuel dk a w) Q) ops [ok] l B R F m r):SXB P ro ps n D M0 w0 Q ops Bs Fs (fuel+1) done l B R F m r:=by
 intro hm a w hf hp hS
 refine ⟨fun h0=>(by rw[hr] at h0;cases h0),fun q hq=>?_⟩
 have key:∀ (q:Nat) (o:Oper) (d':Array Bool),ops[q]?=some o→done.setIfInBounds q true=d' →
   SXO P ro n D M0 w0 (Exit.then (fun a w=>Sh ps Bs Fs d' w∧anyK ro P ops Q (Sh ps Bs Fs) fuel d' a w) Q) ops [o] l B R F m r →
   opK ro P ops Q q (fun a' w'=>Sh ps Bs Fs (done.setIfInBounds q true) w'∧anyK ro P ops Q (Sh ps Bs Fs) fuel (done.setIfInBounds q true) a' w') a w:=by
  intro q o d' ho hd h
  have h1:=h hm a w hf hp
  rw[hd]
  unfold kC wpListIn at h1
  unfold opK wpOpIn
  simp only[ho]
  split
  ·rename_i hw
   rw[if_pos hw] at h1
   refine ⟨fun _ _=>trivial,?_⟩
   exact Oper.uponIn_mono (fun a w h=>h) (fun c a w h=>h) (fun h=>h) _ h1.2
  ·rename_i hw
   rw[if_neg hw] at h1
   exact ⟨fun _ _=>trivial,h1.2⟩
 rw[hr] at hq
 rcases qCu.1 hq with rfl | hq
 ·exact key _ _ _ hoi hdi h1
 ·rcases qCu.1 hq with rfl | hq
  ·exact key _ _ _ hoj hdj h2
  ·rcases qCu.1 hq with rfl | hq
   ·exact key _ _ _ hok hdk h3
   ·cases hq
def cutv (ao:Option Addr)(c size:Nat)(L H:Int):Value:=.slice (if c=L.toNat then ao else ao.map (·.add (L.toNat*size))) (H.toNat-L.toNat) (c-L.toNat)
theorem qdO {ys:List α}{li hj:Int}(h:sub xs li hj=some ys):0≤li∧li≤hj∧hj≤xs.length∧ys=(xs.take hj.toNat).drop li.toNat:=by
 unfold sub at h
 split at h
 ·rename_i hb
  simp only[qCy] at h
  exact ⟨hb.1,hb.2.1,hb.2.2,h.symm⟩
 ·simp at h
theorem qqO {x:Code}{enc:α→List Value}{size:Nat}{k:List α→Option ρ}{li hj:Int}(j:Nat)(henc:EncOk enc size)(hF:F[j]?=some (Sl enc size (.slice ao xs.length c) xs))(h:∀ ys,sub xs li hj=some ys→∀ a' c',cutv ao c size li hj=.slice a' ys.length c'→xs.length≤c→SXC P ro n D M0 w0 Q x l B R (Sl enc size (.slice a' ys.length c') ys::F) (k ys) r) :
  SXC P ro n D M0 w0 Q x l B R F ((sub xs li hj).bind k) r:=by
 intro hm a w hf hp
 cases hq:sub xs li hj with
 | none=>rw[hq] at hm;simp at hm
 | some ys =>
  rw[hq] at hm
  have hm':k ys=some r:=by simpa using hm
  obtain ⟨b1,b2,b3,rfl⟩:=qdO hq
  obtain ⟨L,rfl⟩:=qCp b1
  obtain ⟨H,rfl⟩:=qCp (qEZ b1 b2)
  have b2':L≤H:=by omega
  have b3':H≤xs.length:=by omega
  have hnec:=hp.per _ (qCq hF)
  have hcap:xs.length≤c:=by
   obtain ⟨⟨a1,c1,hv1,hn1,_⟩,_⟩:=(hnec.here:Cells (.slice ao xs.length c) xs.length size (xs.flatMap enc) w)
   simp only[Value.slice.injEq] at hv1
   omega
  have hl:((xs.take H).drop L).length=H-L:=by simp;omega
  refine h _ hq (if c=L then ao else ao.map (·.add (L*size))) (c-L) (by rw[cutv];simp only[qCs,hl]) hcap hm' _ _ hf (hp.addFact ?_)
  intro w' hk'
  obtain ⟨a2,c2,hv2,hc2⟩:=Cells.cut (hnec w' hk':Cells (.slice ao xs.length c) xs.length size (xs.flatMap enc) w') b2' b3'
  simp only[Value.slice.injEq] at hv2
  obtain ⟨rfl,-,rfl⟩:=hv2
  show Cells (.slice _ ((xs.take H).drop L).length _) ((xs.take H).drop L).length size (((xs.take H).drop L).flatMap enc) w'
  rw[hl,qjt henc,qdI henc]
  exact hc2
theorem qse {c:Code}{enc:α→List Value}{v:Value}{e size:Nat}(i:Nat)(hR:R[i]?=some (Ro enc e size v xs))(h:SXC P ro n D M0 w0 Q c l B (R.eraseIdx i) (Sl enc size v xs::F) m r):SXC P ro n D M0 w0 Q c l B R F m r :=
 fun hm a w hf hp=>h hm a w hf (hp.freeze hR)
theorem qml {ex:Exit}{enc:α→List Value}{v:Value}{e size:Nat}(i:Nat)(hR:R[i]?=some (Ro enc e size v xs))(h:SXQ n D M0 w0 Q ex l B (R.eraseIdx i) (Sl enc size v xs::F) m r):SXQ n D M0 w0 Q ex l B R F m r :=
 fun hm a w hf hp=>h hm a w hf (hp.freeze hR)
theorem qcY {ys:List α}{lo hi:Option Operand}{li hj:Int}{V:Value}{e:TypeId}{size:Nat}(ht:P.underlying t'=some (.slice e))(hT:TyF P e agg z size bytes)(hx:ev l x=some (.slice ao xs.length c))(hlo:evOpt l lo 0=some li)(hhi:evOpt l hi (xs.length:Int)=some hj)(hs:sub xs li hj=some ys)(hcap:xs.length≤c)(hv:cutv ao c size li hj=V) :
  Yv P l B F ⟨some d,.slice t' x lo hi none,t,pos,af,gd⟩ V:=by
 intro n D a w hf _
 obtain ⟨b1,b2,b3,_⟩:=qdO hs
 obtain ⟨L,rfl⟩:=qCp b1
 obtain ⟨H,rfl⟩:=qCp (qEZ b1 b2)
 have b2':L≤H:=by omega
 have b3':H≤xs.length:=by omega
 subst hv
 have h1:=hf.ev hx
 have e1:=qd7 hf hlo
 have e2:=qd7 hf hhi
 have hb1:(H:Int)≤(c:Int):=by omega
 have hb0:(0:Int)≤(H:Int):=by omega
 have hb2:(L:Int)≤(H:Int):=by omega
 have hb3:(0:Int)≤(L:Int):=by omega
 have hn1:H≤c:=by omega
 generalize hε:a.eval=ε at h1 e1 e2 ⊢
 rcases e1 with ⟨k1,e1⟩ | ⟨rfl,e1⟩ <;> rcases e2 with ⟨k2,e2⟩ | ⟨rfl,e2⟩
 ·simp[execOp,h1,e1,e2,Instr.sliceAt,Instr.slice,Instr.sliceBounds,Instr.sliceBound,asIntOf,run_underlying ht,hT.run_size,hb0,hb3,hn1,b2',cutv]
 ·have:H=xs.length:=by omega
  subst this
  simp[execOp,h1,e1,Instr.sliceAt,Instr.slice,Instr.sliceBounds,Instr.sliceBound,asIntOf,run_underlying ht,hT.run_size,hb3,b2',cutv]
 ·have:L=0:=by omega
  subst this
  simp[execOp,h1,e2,Instr.sliceAt,Instr.slice,Instr.sliceBounds,Instr.sliceBound,asIntOf,run_underlying ht,hT.run_size,hb0,hn1,cutv]
 ·have:H=xs.length:=by omega
  subst this
  have:L=0:=by omega
  subst this
  simp[execOp,h1,Instr.sliceAt,Instr.slice,Instr.sliceBounds,run_underlying ht,hT.run_size,cutv]
def ji (ks:List Nat)(Q:Exit→Act→World→Prop):Exit→Act→World→Prop
 | .panic c,a,w=>∀ t':Array Value,t'.size=a.tmps.size→(∀ k∈ks,t'[k]?=a.tmps[k]?)→Q (.panic c) { a with tmps:=t' } w
 | e,a,w=>Q e a w
theorem qgE {ks:List Nat}{c:List PanicEntry}{v:Value}(hd:ks.contains d=false)(h:ji ks Q (.panic c) (a.put (some d) v) w):ji ks Q (.panic c) a w :=
 fun t' hs hk=>h t' (by simpa[Act.put] using hs) fun k hkm=>by
  rw[hk k hkm]
  have hne:d≠k:=by rintro rfl;simp[hkm] at hd
  simp only[Act.put]
  rw[Array.getElem?_setIfInBounds]
  simp[hne]
variable {ks:List Nat}
theorem qkx {id:Nat}{os:List Oper}(hm:P.follows .mixedOrders=true)(ks:List Nat)(ps:List Nat)(Bs:List BlkD)(Fs:List (World→Prop))(hB:Pick B Bs)(hF:∀ φ∈Fs,φ∈F∨(∃ rd∈R,∀ w,Cells rd.v rd.n rd.size rd.cs w→φ w)∨∃ b∈B,∀ w,b.is w→φ w)(k:Nat)(hk:os.length=k)(h:SXB P ro ps n D M0 w0 (ji ks Q) os.toArray Bs Fs k (Array.replicate k false) l B R F m r):SXC P ro n D M0 w0 Q (.region id os.toArray true) l B R F m r:=by
 intro hmm a w hf hp
 refine qjA (Q:=ji ks Q) (wpIn_region_any hm ?_) fun e a w hq=>?_
 ·have hp':Hp M0 w0 { w with drawn:=w.drawn+1 } B R F:=hp.step (Keeps.of_heap rfl rfl rfl rfl)
  have:=h hmm a _ hf hp' ⟨(qdN hp' hB hF).1,fun _=>(qdN hp' hB hF).2⟩
  refine qiW (S:=Sh ps Bs Fs) _ _ _ _ ?_
  simpa[hk] using this
 ·cases e <;> first | exact hq | exact hq a.tmps rfl fun _ _=>rfl
theorem qec {done:Array Bool}(i:Nat)(V:Value)(ho:ops[i]?=some o)(hd:o.dst=some d)(hw:wants ops l o=some true)(hy:Yv P l Bs [] o V)(hkd:ks.contains d=false)(h:SXB P ro ps n D M0 w0 (ji ks Q) ops Bs Fs fuel (done.setIfInBounds i true) ((d,V)::l) B R F m r)(hk:okP ops ps done i d n=true:=by kernel_rfl):SXB P ro ps n D M0 w0 (ji ks Q) ops Bs Fs (fuel+1) done l B R F m r:=by
 intro hm a w hf hp hS
 obtain ⟨hca,hs,hfr,hr,hcl,hni,hdn⟩:=qhk hk
 refine qcV (S:=Sh ps Bs Fs) (T:=fun w=>∀ b∈Bs,b.is w) (v:=V) ho hca (Region.noSelect_spec hs) (fun c a w h=>by rw[hd] at h;exact qgE hkd h) (fun _ _ _ _ h=>h.1) (fun _ _ h=>(Sh.set hni).1 h) (fun _ _ h=>(Sh.set hni).2 h) fuel done a w (Region.free_spec ho hfr) (by simpa using hr) (qd6 hcl)
  (.inl ⟨zu hf hw,fun w' h=>hy n D a w' hf ⟨h,by simp⟩⟩) hS ?_
 rw[hd]
 exact h hm _ _ (hf.put hdn _) hp ((Sh.set hni).2 hS)
theorem ky {done:Array Bool}(i:Nat)(V:Value)(ho:ops[i]?=some o)(hd:o.dst=some d)(hw:wants ops l o=some true)(hy:Yv P l [] [] o V)(hkd:ks.contains d=false)(h:SXB P ro ps n D M0 w0 (ji ks Q) ops Bs Fs fuel (done.setIfInBounds i true) ((d,V)::l) B R F m r)(hk:okP ops ps done i d n=true:=by kernel_rfl):SXB P ro ps n D M0 w0 (ji ks Q) ops Bs Fs (fuel+1) done l B R F m r:=by
 intro hm a w hf hp hS
 obtain ⟨hca,hs,hfr,hr,hcl,hni,hdn⟩:=qhk hk
 refine qcV (S:=Sh ps Bs Fs) (T:=fun _=>True) (v:=V) ho hca (Region.noSelect_spec hs) (fun c a w h=>by rw[hd] at h;exact qgE hkd h) (fun _ _ _ _ _=>trivial) (fun _ _ h=>(Sh.set hni).1 h) (fun _ _ h=>(Sh.set hni).2 h) fuel done a w (Region.free_spec ho hfr) (by simpa using hr) (qd6 hcl)
  (.inl ⟨zu hf hw,fun w' _=>hy n D a w' hf ⟨by simp,by simp⟩⟩) hS ?_
 rw[hd]
 exact h hm _ _ (hf.put hdn _) hp ((Sh.set hni).2 hS)
theorem jl {done:Array Bool}(i:Nat)(ho:ops[i]?=some o)(hd:o.dst=some d)(hw:wants ops l o=some false)(hkd:ks.contains d=false)(h:SXB P ro ps n D M0 w0 (ji ks Q) ops Bs Fs fuel (done.setIfInBounds i true) ((d,undef)::l) B R F m r)(hk:okP ops ps done i d n=true:=by kernel_rfl):SXB P ro ps n D M0 w0 (ji ks Q) ops Bs Fs (fuel+1) done l B R F m r:=by
 intro hm a w hf hp hS
 obtain ⟨hca,hs,hfr,hr,hcl,hni,hdn⟩:=qhk hk
 refine qcV (S:=Sh ps Bs Fs) (T:=fun _=>True) (v:=undef) ho hca (Region.noSelect_spec hs) (fun c a w h=>by rw[hd] at h;exact qgE hkd h) (fun _ _ _ _ _=>trivial) (fun _ _ h=>(Sh.set hni).1 h) (fun _ _ h=>(Sh.set hni).2 h) fuel done a w (Region.free_spec ho hfr) (by simpa using hr) (qd6 hcl)
  (.inr ⟨zu hf hw,rfl⟩) hS ?_
 rw[hd]
 exact h hm _ _ (hf.put hdn _) hp ((Sh.set hni).2 hS)
theorem qsr {e:Exit}(h:SXQ n D M0 w0 Q e l B R F m r)(he:∀ c,e≠.panic c):SXQ n D M0 w0 (ji ks Q) e l B R F m r:=by
 intro hm a w hf hp
 have:=h hm a w hf hp
 cases e <;> first | exact this | exact absurd rfl (he _)
theorem qrO:∀ p∈([]:Env),ks.contains p.1=true∧look l p.1=some p.2:=by simp
theorem qic {k:Nat}{v:Value}{q:Env}(hk:ks.contains k=true)(h:look l k=some v)(hr:∀ p∈q,ks.contains p.1=true∧look l p.1=some p.2):∀ p∈((k,v)::q),ks.contains p.1=true∧look l p.1=some p.2:=by
 intro p hp
 rcases qCu.1 hp with rfl | hp
 ·exact ⟨hk,h⟩
 ·exact hr p hp
theorem qpa {l':Env}(hl:∀ p∈l',ks.contains p.1=true∧look l p.1=some p.2)(h:SXQ n D M0 w0 Q (.panic ch) l' B R F m r):SXQ n D M0 w0 (ji ks Q) (.panic ch) l B R F m r:=by
 intro hm a w hf hp t' hs hk
 refine h hm { a with tmps:=t' } w ⟨hf.defers,by show t'.size=n;rw[hs];exact hf.size,fun i v hv=>?_⟩ hp
 have key:∀ (q:Env),(∀ p∈q,ks.contains p.1=true∧look l p.1=some p.2)→look q i=some v→ks.contains i=true∧look l i=some v:=by
  intro q
  induction q with
  | nil=>intro _ h;simp[look] at h
  | cons p q ih =>
   intro hq h
   obtain ⟨d,u⟩:=p
   rw[qal] at h
   split at h
   ·rename_i hd;subst hd;simp at h;subst h;exact hq (d,u) (by simp)
   ·exact ih (fun p hp=>hq p (by simp[hp])) h
 obtain ⟨h1,h2⟩:=key l' hl hv
 show t'[i]?=some v
 rw[hk i (by simpa using h1)]
 exact hf.val i v h2
def qmU (P:Program)(f:FuncId)(args:Array Value):Prop :=
 ∀ w,CallsD P f args .returning w fun e u' w'=>e=.returned (.tuple #[])∧u'=.returning∧w'=w
def qmV (P:Program)(f:FuncId)(args:Array Value)(T:TypeId)(v:Value)(B0 B1:List BlkD):Prop :=
 ∀ w,Hp (muts B0 []) w w B0 [] []→CallsD P f args (.panicking [{ v:=.iface T v,recovered:=false }]) w fun e u' w' =>
  e=.returned (.tuple #[])∧u'=.panicking [{ v:=.iface T v,recovered:=true }]∧Hp (muts B0 []) w w' B1 [] []
abbrev clo (f:FuncId) (first cap:Array Value):Deferred:={ target:=.fn (.func f) cap,args:=first }
theorem qu8 (hx:ev l x=some (.func (.func f) first cap))(hd:dst=none)(h:SXO P none n (clo f first cap::D) M0 w0 Q ops rest l B R F m r):SXO P none n D M0 w0 Q ops (⟨dst,.defer ⟨.value x,#[],tys⟩,t,pos,af,none⟩::rest) l B R F m r:=by
 subst hd
 intro hm a w hf hp
 have h1:(execOp a.eval ⟨none,.defer ⟨.value x,#[],tys⟩,t,pos,af,none⟩).run P w=.ok (.defer (clo f first cap)) w:=by
  have h1:=hf.ev hx
  generalize a.eval=ε at h1 ⊢
  simp[execOp,resolve,h1,Deferred.ofValue]
 unfold kC wpListIn
 rw[if_pos (by rfl)]
 refine ⟨fun _ _=>trivial,?_⟩
 show Oper.uponIn _ _ _ _ _ _ _ ((execOp a.eval ⟨none,.defer ⟨.value x,#[],tys⟩,t,pos,af,none⟩).run P w)
 rw[h1,Oper.uponIn_defer]
 refine h hm _ w ⟨?_,hf.size,fun i v hv=>hf.val i v hv⟩ hp
 show clo f first cap::a.defers=_
 rw[hf.defers]
theorem qw1 {c:Code}{γ:Type}{V:γ→Value}{B1:γ→List BlkD}{R1:γ→List RowD}(hfn:P.funcs[f]?=some fn)(hb:fn.body=some c)(hn:fn.ntmps=N)(hvl:Nat.ble vs.length N=true)(hm:m=some r)(h:∀ w,SXC P none N [] (muts B0 R0) w (bodyPostD P fn fun e w'=>∃ g:γ,e=.returned (V g)∧Hp (muts B0 R0) w w' (B1 g) (R1 g) []) c (vs.zipIdx.map fun p=>(p.2,p.1)) B0 R0 Φ m r):PureM P f vs B0 R0 Φ γ V B1 R1:=by
 intro w hp
 refine calls_of_wp_defers hfn hb (qhR.1 (h w hm _ w ?_ hp))
 have hvl':vs.length≤N:=by simpa using hvl
 refine ⟨rfl,by simp[hn];omega,fun i v hv=>?_⟩
 have key:∀ (vs:List Value) (k i:Nat) (v:Value),look ((vs.zipIdx k).map fun p=>(p.2,p.1)) i=some v→k≤i∧vs[i-k]?=some v:=by
  intro vs
  induction vs with
  | nil=>intro k i v hv;simp[look] at hv
  | cons u vs ih =>
   intro k i v hv
   simp only[qDT,qC5] at hv
   rw[qal] at hv
   split at hv
   ·rename_i he;subst he;simpa using hv
   ·obtain ⟨h1,h2⟩:=ih (k+1) i v hv
    refine ⟨by omega,?_⟩
    rw[show i-k=(i-(k+1))+1 from by omega]
    simpa using h2
 obtain ⟨_,h2⟩:=key vs 0 i v hv
 have hlt:=(qCx.1 h2).1
 rw[Array.getElem?_append_left (by simpa using hlt)]
 simpa using h2
theorem qss {Rp:Ending→World→Prop}{e:Exit}(he:e=.ret∨e=.normal)(hE:Enters P f)(ha:first++cap=args)(hi:qmU P f args)(h:SXQ n [] M0 w0 (bodyPost P fn Rp) .ret l B R F m r):SXQ n [clo f first cap] M0 w0 (bodyPostD P fn Rp) e l B R F m r:=by
 intro hm a w hf hp
 have h2:Leaves P fn a.tmps Rp [clo f first cap] .returning w:=by
  refine leaves_cons (f:=f) (args:=args) (by simp) ?_ ((hi w).mono ?_)
  ·subst ha;exact hE _ w
  ·rintro e u' w' ⟨rfl,rfl,rfl⟩
   exact (h hm { tmps:=a.tmps,defers:=[] } w' ⟨rfl,hf.size,hf.val⟩ hp).2
 rcases he with rfl | rfl
 ·show Leaves P fn a.tmps Rp a.defers .returning w
  rw[hf.defers];exact h2
 ·show Leaves P fn a.tmps Rp a.defers .returning w
  rw[hf.defers];exact h2
theorem qf0 {Rp:Ending→World→Prop}{v:Value}{B1:List BlkD}(hE:Enters P f)(ha:first++cap=args)(hB:Takes B B0 BS)(hi:qmV P f args T v B0 B1)(h:SXQ n [] M0 w0 (bodyPost P fn Rp) .ret l (B1++BS) R F m r):SXQ n [clo f first cap] M0 w0 (bodyPostD P fn Rp) (.panic [{ v:=.iface T v,recovered:=false }]) l B R F m r:=by
 intro hm a w hf hp
 show Leaves P fn a.tmps Rp a.defers (.panicking [{ v:=.iface T v,recovered:=false }]) w
 rw[hf.defers]
 have hp':=hp.perm hB.perm (qCU R)
 have hst:Hp (muts B0 []) w w B0 [] []:=by
  have:=Hp.startM (R0:=[]) (RS:=R) (Φ:=[]) (by simpa using hp') (by simp)
  exact this
 refine leaves_cons (f:=f) (args:=args) (by simp) ?_ ((hi w hst).mono ?_)
 ·subst ha;exact hE _ w
 ·rintro e u' w' ⟨rfl,rfl,h3⟩
  have h4:=Hp.callM (R0:=[]) (RS:=R) (by simpa using hp') h3
  exact (h hm { tmps:=a.tmps,defers:=[] } w' ⟨rfl,hf.size,hf.val⟩ (by simpa using h4)).2
theorem qvb {v:Value}(hw:wants ops l ⟨some d,.makeInterface T x,t,pos,af,gd⟩=some true)(hx:ev l x=some v)(hT:∀ w,(Instr.makeInterface T v).run P w=.ok (.iface T v) w)(hd:Nat.blt d n=true)(h:SXO P ro n D M0 w0 Q ops rest ((d,.iface T v)::l) B R F m r):SXO P ro n D M0 w0 Q ops (⟨some d,.makeInterface T x,t,pos,af,gd⟩::rest) l B R F m r :=
 qP _ hw rfl hd (fun a w hf _=>by
  have h1:=hf.ev hx
  have h2:=hT w
  generalize a.eval=ε at h1 ⊢
  generalize hq:Instr.makeInterface T v=q at h2
  simp[execOp,h1,hq,h2]) h
theorem qo2 {v:Value}(hw:wants ops l ⟨some d,.typeAssert x xt T true,t,pos,af,gd⟩=some true)(hx:ev l x=some (.iface T v))(hT:∀ w,(Instr.typeAssert (.iface T v) xt T true).run P w=.ok (.tuple #[v,.bool true]) w)(hd:Nat.blt d n=true)(h:SXO P ro n D M0 w0 Q ops rest ((d,.tuple #[v,.bool true])::l) B R F m r):SXO P ro n D M0 w0 Q ops (⟨some d,.typeAssert x xt T true,t,pos,af,gd⟩::rest) l B R F m r :=
 qP _ hw rfl hd (fun a w hf _=>by
  have h1:=hf.ev hx
  have h2:=hT w
  generalize a.eval=ε at h1 ⊢
  generalize hq:Instr.typeAssert (.iface T v) xt T true=q at h2
  simp[execOp,h1,hq,h2]) h
theorem qqV {yt:TypeId}{v:Value}(hw:wants ops l ⟨some d,.binOp .eql xt x y yt,t,pos,af,gd⟩=some true)(hx:ev l x=some (.iface T v))(hy:ev l y=some .nilIface)(hE:∀ w,(do eqGuard .eql xt x y (.iface T v) .nilIface;binOp .eql xt (.iface T v) .nilIface:Sem Value).run P w=.ok (.bool false) w)(hd:Nat.blt d n=true)(h:SXO P ro n D M0 w0 Q ops rest ((d,.bool false)::l) B R F m r):SXO P ro n D M0 w0 Q ops (⟨some d,.binOp .eql xt x y yt,t,pos,af,gd⟩::rest) l B R F m r :=
 qP _ hw rfl hd (fun a w hf _=>by
  have h1:=hf.ev hx
  have h3:=hf.ev hy
  have h2:=hE w
  generalize a.eval=ε at h1 h3 ⊢
  generalize hq:(do eqGuard .eql xt x y (.iface T v) .nilIface;binOp .eql xt (.iface T v) .nilIface:Sem Value)=q at h2
  simp only[execOp,h1,h3]
  show ((do let v ← (do eqGuard .eql xt x y (.iface T v) .nilIface;binOp .eql xt (.iface T v) .nilIface:Sem Value);pure (.value v):Sem Next)).run P w=_
  rw[hq]
  simp[h2]) h
end SX
namespace SX
open Go Go.ChangeShapes Go.WideShapes Go.ChangeAt Go.RowKit
set_option linter.unusedSectionVars false
variable [DM]
variable {H:Type}{enc:TypeId×Value→H}{P:Program}
theorem qiD (hl:laidOutB P=true){W W':World}(hb:Below W.heap.size W W'){sp:Nat→Bool}:∀ {ts:List TypeId} {vs:List Value} {ds:List (DataW H)} {ps:List MemPlace},
  (ts.all fun t=>P.readableRec t && Nat.blt t P.types.size)=true→DataW.TrodAll enc P W 0 (fun _=>true) true ts vs ds ps→(∀ x∈ps,x.block<W.heap.size)→(∀ x∈ps,sp x.block=true) →
  DataW.TrodAll enc P W' 0 sp true ts vs ds ps
 | [],vs,ds,ps,_,h,_,_=>by
  obtain ⟨rfl,rfl,rfl⟩:=trodAll_nil h
  exact h
 | t::ts,vs,ds,ps,hts,h,hlt,hsp=>by
  obtain ⟨v,vs',d,ds',p,q,rfl,rfl,rfl,h1,h2⟩:=trodAll_cons h
  simp only[List.all_cons,qC2] at hts
  have hrow:t<P.types.size:=by simpa using hts.1.2
  exact ⟨p,q,WideElems.Trod_stays hl hts.1.1 hrow h1 (fun x hx=>hb.same (hlt x (qCr.2 (.inl hx)))) (fun x hx=>hsp x (qCr.2 (.inl hx))),
   qiD hl hb (by simpa using hts.2) h2 (fun x hx=>hlt x (qCr.2 (.inr hx))) (fun x hx=>hsp x (qCr.2 (.inr hx))),rfl⟩
theorem qgY {W:World}{v:Value}{n size:Nat}{cs:List Value}(h:Cells v n size cs W)(hb:∀ a len cap,v=.slice (some a) len cap→cs≠[]→a.block<W.heap.size):Nec W [] (Cells v n size cs):=by
 intro w' hk
 obtain ⟨⟨a,cap,rfl,h1,h2,h3,h4⟩,hl⟩:=h
 refine ⟨⟨a,cap,rfl,h1,h2,h3,fun j u hj=>?_⟩,hl⟩
 obtain ⟨ad,rfl,hc⟩:=h4 j u hj
 refine ⟨ad,rfl,?_⟩
 have hlt:=hb ad n cap rfl (by rintro rfl;simp at hj)
 have:=hk.block ad.block hlt (by simp)
 unfold World.cell? at hc ⊢
 simp only at hc ⊢
 rw[this]
 exact hc
theorem qy3 {W:World}:∀ ψ∈([]:List (World→Prop)),Nec W [] ψ:=by simp
theorem qqj {W:World}{φ:World→Prop}{Φ:List (World→Prop)}(h:Nec W [] φ)(hr:∀ ψ∈Φ,Nec W [] ψ):∀ ψ∈φ::Φ,Nec W [] ψ:=by
 intro ψ hψ
 rcases qCu.1 hψ with rfl | hψ
 ·exact h
 ·exact hr ψ hψ
theorem qwm {f:Func}{s:ChangeSpec}{apart fresh:Bool}{W W':World}{args:Array Value}{ds gs:List (DataW H)}{before:List MemPlace}{tb:TypeId}(hl:laidOutB P=true)(hts:(f.params.toList.all fun t=>P.readableRec t && Nat.blt t P.types.size)=true)(hrt:f.resultTypes=#[tb])(hb:P.underlying tb=some .bool)(hv:s.vars=[])(hW:DataW.Whole enc P f.params.toList s.vars apart W args.toList ds gs before)(hs:s.fn H (ds++gs)={ results:=[.lit (.bool true)],args:=ds })(hk:Keeps [] W W') :
  s.post enc P f apart fresh false false W args (.bool true) W':=by
 have hlt:=hW.lt
 have hW0:=hW
 obtain ⟨p,q,hA,hV,rfl,hfz,hnd⟩:=hW
 rw[hv] at hV
 obtain ⟨rfl,rfl⟩:=trodVars_none hV
 have hbl:=hk.below
 refine ⟨ds,[],p++[],[],p,[],hW0,?_,?_,?_,?_,fun h=>by cases h⟩
 ·rw[hrt,hs]
  exact trodAll_mk1 (shut_bool hb true)
 ·rw[hs]
  exact qiD hl hbl hts hA (fun x hx=>hlt x (by simpa using hx)) (fun x hx=>by simpa using hlt x (by simpa using hx))
 ·rw[hv,hs]
  trivial
 ·exact hbl.frame _
variable {M0:List Nat}{w0 w:World}{B:List BlkD}{R:List RowD}{F:List (World→Prop)}
variable {ki kn:IntKind}{ys:List Int}{R':List RowD}{c esz j k lim off:Nat}{ix x:Operand}{ao:Option Addr}{β:Type}{V:Value}
theorem Hp.permM {B':List BlkD}(h:Hp M0 w0 w B R F)(hb:∀ b∈B',b.is w)(hr:∀ r∈R',r.owns w)(hp:(muts B R).Perm (muts B' R')):Hp M0 w0 w B' R' F :=
 { keep:=h.keep,blk:=hb,rows:=hr,nodup:=hp.nodup_iff.1 h.nodup,fresh:=fun g hg=>h.fresh g (hp.mem_iff.2 hg),per:=fun φ hφ=>(h.per φ hφ).less (fun _ hk=>hp.mem_iff.2 hk) }
theorem qmN {α:Type}{f:α→β}{xs:List α}{i:Nat}{x:α}(hi:xs[i]?=some x):(xs.map f).Perm (f x::(xs.eraseIdx i).map f):=by
 obtain ⟨A,C,rfl,he⟩:=qeQ hi
 rw[he]
 simp only[qDD,qC5]
 exact qDi
theorem qp2 {xs:List RowD}{i:Nat}{x:RowD}{g:Nat}(hi:xs[i]?=some x)(hx:x.blocks=[g]):(xs.flatMap RowD.blocks).Perm (g::(xs.eraseIdx i).flatMap RowD.blocks):=by
 obtain ⟨A,C,rfl,he⟩:=qeQ hi
 rw[he]
 simp only[qCQ,qCz,hx,List.singleton_append]
 exact qDi
theorem Hp.b2r {α:Type}{enc:α→List Value}{size i g e:Nat}{xs:List α}(henc:EncOk enc size)(h:Hp M0 w0 w B R F)(hi:B[i]?=some ⟨g,e,xs.flatMap enc⟩)(hn:xs.length=k)(hk:k≤maxLen) :
  Hp M0 w0 w (B.eraseIdx i) (Ro enc e size (.slice (some ⟨g,0,none⟩) xs.length k) xs::R) F:=by
 refine h.permM (fun b hb=>h.blk b (List.mem_of_mem_eraseIdx hb)) (fun r hr=>?_) ?_
 ·rcases qCu.1 hr with rfl | hr
  ·have hb:w.heap[g]?=some (.cells (xs.flatMap enc).toArray e (0,0)):=h.blk _ (qCq hi)
   refine RowD.owns_one (r:=Ro enc e size (.slice (some ⟨g,0,none⟩) xs.length k) xs) ⟨qV henc xs,.inr ⟨g,k,(xs.flatMap enc).toArray,rfl,qCT _,hb,?_,hk,?_,?_⟩⟩ rfl
   ·show xs.length≤k;omega
   ·show (xs.flatMap enc).toArray.size=k*size
    rw[qDj,qV henc xs,hn]
   ·show (xs.flatMap enc).toArray.toList.take (xs.length*size)=xs.flatMap enc
    rw[qCZ]
    have:=qV henc xs
    show (xs.flatMap enc).length≤xs.length*size
    omega
  ·exact h.rows r hr
 ·have h1:=qmN (f:=fun b:BlkD=>b.g) hi
  unfold muts
  refine (h1.append_right _).trans ?_
  exact (qDi (l₁:=(B.eraseIdx i).map (·.g)) (l₂:=R.flatMap RowD.blocks) (a:=g)).symm
theorem Hp.r2b {α:Type}{enc:α→List Value}{size g e:Nat}{xs:List α}(h:Hp M0 w0 w B R F)(hj:R[j]?=some (Ro enc e size (.slice (some ⟨g,0,none⟩) xs.length k) xs))(hn:xs.length=k) :
  Hp M0 w0 w (⟨g,e,xs.flatMap enc⟩::B) (R.eraseIdx j) F:=by
 have hown:=h.row _ (qCq hj)
 rcases hown.2 with ⟨h5,_⟩ | ⟨g',cap,cur,h5,_,hgg,_,_,hcs,htake⟩
 ·have h5':Value.slice (some ⟨g,0,none⟩) xs.length k=.slice none 0 0:=h5
  simp at h5'
 ·have h5':Value.slice (some ⟨g,0,none⟩) xs.length k=.slice (some ⟨g',0,none⟩) xs.length cap:=h5
  simp only[Value.slice.injEq,qCy,Addr.mk.injEq,true_and,and_true] at h5'
  obtain ⟨rfl,rfl⟩:=h5'
  have hcs':cur.size=k*size:=hcs
  have htake':cur.toList.take (xs.length*size)=xs.flatMap enc:=htake
  have hgg':w.heap[g]?=some (.cells cur e (0,0)):=hgg
  have hcur:cur=(xs.flatMap enc).toArray:=by
   rw[qCZ (by rw[Array.length_toList,hcs',hn];exact qCE _)] at htake'
   rw[← htake']
  refine h.permM (fun b hb=>?_) (fun r hr=>h.rows r (List.mem_of_mem_eraseIdx hr)) ?_
  ·rcases qCu.1 hb with rfl | hb
   ·show w.heap[g]?=some (.cells (xs.flatMap enc).toArray e (0,0))
    rw[← hcur];exact hgg'
   ·exact h.blk b hb
  ·have h1:=qp2 (g:=g) hj rfl
   unfold muts
   refine (qDK _ h1).trans ?_
   exact qDi
variable {ro:Option Nat}{n:Nat}{D:List Deferred}{Q:Exit→Act→World→Prop}{ops:Array Oper}{rest:List Oper}{l:Env}{ρ:Type}{m:Option ρ}{r:ρ}
variable {d:Nat}{t t' e:TypeId}{pos:String}{af:Array Edge}{gd:Option (Nat×Bool)}{agg:Bool}{z:Value}{size bytes:Nat}
theorem qo3 {α:Type}{enc:α→List Value}{i g:Nat}{xs:List α}(henc:EncOk enc size)(hi:B[i]?=some ⟨g,e,xs.flatMap enc⟩)(hn:xs.length=k)(hk:Nat.ble k maxLen=true)(h:SXO P ro n D M0 w0 Q ops rest l (B.eraseIdx i) (Ro enc e size (.slice (some ⟨g,0,none⟩) xs.length k) xs::R) F m r):SXO P ro n D M0 w0 Q ops rest l B R F m r :=
 fun hm a w hf hp=>h hm a w hf (hp.b2r henc hi hn (qDh hk))
theorem qt1 {α:Type}{enc:α→List Value}{g:Nat}{xs:List α}(hj:R[j]?=some (Ro enc e size (.slice (some ⟨g,0,none⟩) xs.length k) xs))(hn:xs.length=k)(h:SXO P ro n D M0 w0 Q ops rest l (⟨g,e,xs.flatMap enc⟩::B) (R.eraseIdx j) F m r):SXO P ro n D M0 w0 Q ops rest l B R F m r :=
 fun hm a w hf hp=>h hm a w hf (hp.r2b hj hn)
theorem qsh {parts:Array (Nat×Operand)}{vs:List (Nat×Value)}{cells:List Value}{nn ns nb:Nat}{zc:Value}{ag:Bool}(hw:wants ops l ⟨some d,.build t' parts,t,pos,af,gd⟩=some true)(ht:P.underlying t'=some (.array nn e))(hZ:TyF P t' ag zc ns nb)(hT:TyF P e agg z size bytes)(hp:evParts l parts.toList=some vs)(hfill:Instr.fill (fun i=>some (i*size,size)) zc.cells vs=some cells.toArray)(hd:Nat.blt d n=true)(h:SXO P ro n D M0 w0 Q ops rest ((d,.agg cells.toArray)::l) B R F m r):SXO P ro n D M0 w0 Q ops (⟨some d,.build t' parts,t,pos,af,gd⟩::rest) l B R F m r :=
 qP _ hw rfl hd (fun a w hf _=>by
  have hpe:=hf.evParts hp
  have hpa:(parts.map fun p=>(p.1,a.eval p.2))=vs.toArray:=by rw[← hpe,← Array.toList_map,Array.toArray_toList]
  obtain ⟨i,hi,hz,_,_⟩:=hZ.inf
  generalize a.eval=ε at hpa ⊢
  simp only[execOp,hpa,Instr.build]
  simp[zeroValue,typeInfo,hi,hz,run_underlying ht,hT.run_size,hfill]) h
theorem qxH {x:Code}:SXC P ro n D M0 w0 Q x l B R F (none:Option ρ) r:=fun hm=>by simp at hm
theorem qsk {xs:List Int}{k:Int→Option ρ}{i:Int}{N:Nat}(hw:wants ops l ⟨some d,.index t' x ix,t,pos,af,gd⟩=some true)(ht:P.underlying t'=some (.array N e))(hT:TyF P e false z 1 bytes)(hx:ev l x=some (.agg (xs.flatMap (eI kn)).toArray))(hi:ev l ix=some (.int ki i))(hn:xs.length=N)(hd:Nat.blt d n=true)(h:∀ y,idx xs i=some y→SXO P ro n D M0 w0 Q ops rest ((d,.int kn y)::l) B R F (k y) r) :
  SXO P ro n D M0 w0 Q ops (⟨some d,.index t' x ix,t,pos,af,gd⟩::rest) l B R F ((idx xs i).bind k) r:=by
 refine k6 hw fun hm a w hf hp=>?_
 cases hq:idx xs i with
 | none=>rw[hq] at hm;simp at hm
 | some y =>
  rw[hq] at hm
  have hm':k y=some r:=by simpa using hm
  obtain ⟨h0,hlt,hy⟩:=qu hq
  have h1:=hf.ev hx
  have h2:=hf.ev hi
  have hlt':i<(N:Int):=by omega
  have e1:xs.flatMap (eI kn)=xs.map (Value.int kn):=by
   clear hx h1 hn hq hlt hy hm h
   induction xs with
   | nil=>rfl
   | cons x xs ih=>rw[qCz,ih];rfl
  have hc:(xs.flatMap (eI kn)).toArray[i.toNat]?=some (.int kn y):=by
   rw[e1,qEF,qDv,hy];rfl
  refine ⟨.int kn y,w,?_,h y hq hm' _ _ (hf.put hd _) hp⟩
  generalize a.eval=ε at h1 h2 ⊢
  generalize (xs.flatMap (eI kn)).toArray=cs at hc h1
  simp[execOp,h1,h2,Instr.index,asIntOf,run_underlying ht,hT.run_size,h0,hlt',part,hT.run_isAgg,hc]
theorem qAG {cs:List Value}(h:cs.length=k):((cs.drop 0).take k).length=k:=by rw[qCY,qCZ (by omega),h]
theorem qAF {cs:List Value}(h:cs.length=k):(if true=true then Value.agg ((cs.drop 0).take k).toArray else ((cs.drop 0).take k).getD 0 undef)=.agg cs.toArray:=by rw[if_pos rfl,qCY,qCZ (by omega)]
theorem qhd {xs:List Int}(h:xs.length=k):(xs.flatMap (eI kn)).length=k:=by rw[qV (qC kn) xs,qDn,h]
theorem qAJ {cs:List Value}(h:cs.length=k)(hy:ys.length=k):cs.take 0++(Value.agg (ys.flatMap (eI kn)).toArray).cells.toList++cs.drop (0+(Value.agg (ys.flatMap (eI kn)).toArray).cells.size)=ys.flatMap (eI kn):=by
 have h1:=qhd (kn:=kn) hy
 have h2:(Value.agg (ys.flatMap (eI kn)).toArray).cells=(ys.flatMap (eI kn)).toArray:=rfl
 rw[h2,List.take_zero,qCM,qDj,List.drop_of_length_le (by omega),qC0]
theorem qAI:qeB (Value.agg (ys.flatMap (eI kn)).toArray).cells.toList=true:=by
 show (ys.flatMap (eI kn)).all (·.oneCell')=true
 rw[qC9]
 intro v hv
 obtain ⟨y,_,hy⟩:=qDq.1 hv
 exact qC9.1 ((qC kn).ok y) v hy
theorem qAH {xs:List Int}(hn:xs.length=k)(hy:ys.length=k):decide (0+(Value.agg (ys.flatMap (eI kn)).toArray).cells.size≤(xs.flatMap (eI kn)).length)=true:=by
 have h1:=qhd (kn:=kn) hn
 have h2:=qhd (kn:=kn) hy
 have h3:(Value.agg (ys.flatMap (eI kn)).toArray).cells.size=(ys.flatMap (eI kn)).length:=rfl
 rw[h3]
 exact decide_eq_true (by omega)
theorem qAK (h:ys.length=k):(Value.agg (ys.flatMap (eI kn)).toArray).cells.size=k:=by
 show (ys.flatMap (eI kn)).toArray.size=k
 rw[qDj,qhd h]
theorem qiZ (k:IntKind):∀ xs:List Int,xs.flatMap (eI k)=xs.map (Value.int k)
 | []=>rfl
 | x::xs=>by rw[qCz,qiZ k xs];rfl
theorem qgM {cur:Array Value}{zs:List Int}(h:zs.length≤cur.size):(Go.Sort.putCells (Value.int .i64) 0 zs.toArray cur).toList.take zs.length=zs.map (Value.int .i64):=by
 apply qDb
 intro j
 unfold Go.Sort.putCells
 by_cases hj:j<zs.length
 ·have hc:j<cur.size:=by omega
  rw[qCK hj,Array.getElem?_toList,Array.getElem?_mapIdx,Array.getElem?_eq_getElem hc,qDv,qCn hj]
  simp only[qDk]
  rw[if_pos (by simp;omega)]
  congr 2
  rw[Nat.sub_zero]
  simp[hj]
 ·rw[qC7 (by simp;omega),qC7 (by simp;omega)]
theorem qgL {cur:Array Value}{d:Array Int}{o:Nat}:(Go.Sort.putCells (Value.int .i64) o d cur).size=cur.size:=by simp[Go.Sort.putCells]
theorem qko {g e:Nat}{fz:Nat×Nat}{cur:Array Value}{d:Array Int}(h:w.heap[g]?=some (.cells cur e fz)):(Go.Sort.putRow (Value.int .i64) w g 0 d).heap[g]?=some (.cells (Go.Sort.putCells (Value.int .i64) 0 d cur) e fz):=by
 unfold Go.Sort.putRow Go.Sort.mapBlock
 show (w.heap.modify g _)[g]?=_
 rw[Array.getElem?_modify,if_pos rfl,h]
 rfl
theorem qoP {g:Nat}{d:Array Int}(h:k≠g):(Go.Sort.putRow (Value.int .i64) w g 0 d).heap[k]?=w.heap[k]?:=by
 unfold Go.Sort.putRow Go.Sort.mapBlock
 show (w.heap.modify g _)[k]?=_
 rw[Array.getElem?_modify,if_neg (fun e=>h e.symm)]
theorem qhn {g:Nat}{d:Array Int}{os:Array Obj}:Keeps [g] w (Go.Sort.grow (Go.Sort.putRow (Value.int .i64) (Go.Sort.ahead w n) g 0 d) os):=by
 have hs:(Go.Sort.putRow (Value.int .i64) (Go.Sort.ahead w n) g 0 d).heap.size=w.heap.size:=by
  show (w.heap.modify g _).size=_
  simp
 refine ⟨rfl,rfl,rfl,?_,fun k hk hn=>?_,fun _=>Nat.le_add_right _ _⟩
 ·show w.heap.size≤((Go.Sort.putRow (Value.int .i64) (Go.Sort.ahead w n) g 0 d).heap++os).size
  rw[Array.size_append];omega
 ·show ((Go.Sort.putRow (Value.int .i64) (Go.Sort.ahead w n) g 0 d).heap++os)[k]?=_
  rw[Array.getElem?_append_left (by omega),qoP (by simpa using hn)]
  rfl
theorem row_holds {g:Nat}{cur:Array Value}{xs:List Int}(h:w.heap[g]?=some (.cells cur e (0,0)))(ht:cur.toList.take xs.length=xs.map (Value.int .i64)):Go.Sort.Holds (Value.int .i64) w g 0 xs.toArray:=by
 intro j hj
 have hj':j<xs.length:=by simpa using hj
 have h1:cur[j]?=some (Value.int .i64 xs[j]):=by
  have:=congrArg (fun l=>l[j]?) ht
  simp only[qCK hj',qDv,qCn hj',qDk,Array.getElem?_toList] at this
  exact this
 refine ⟨?_,?_⟩
 ·rw[qDg]
  simp[World.cell?,h,h1,hj']
 ·simp[World.frozen?,h]
def srt (xs:List Int):List Int:=isF (fun x y=>decide (x<y)) xs
theorem qii (xs:List Int):(srt xs).length=xs.length:=(qhS _ xs).length_eq
theorem qny (l:List Int):(srt l).Perm l:=qhS _ l
theorem qtW (l:List Int):(srt l).Pairwise (·≤·) :=
 (qrJ (lt:=fun x y:Int=>decide (x<y)) (S:=fun _=>True) (fun a b d _ _ _ h1 h2=>by simp only[decide_eq_false_iff_not] at *;omega) (fun a b _ _ h=>by simp only[decide_eq_true_eq,decide_eq_false_iff_not] at *;omega) l fun _ _=>trivial).imp fun h=>by simpa using h
theorem qBr (l:List Int):(l.mergeSort fun x y=>decide (x≤y))=srt l:=by
 have h:=List.pairwise_mergeSort (le:=fun x y:Int=>decide (x≤y)) (fun a b c h1 h2=>by simp only[decide_eq_true_eq] at *;omega) (fun a b=>by simp only[Bool.or_eq_true,decide_eq_true_eq];omega) l
 exact List.Perm.eq_of_pairwise (le:=fun x y:Int=>x≤y) (fun a b _ _ h1 h2=>by omega) (h.imp fun h=>by simpa using h) (qtW l) ((List.mergeSort_perm l _).trans (qny l).symm)
theorem qsa {f:FuncId}{a:Option Addr}{xs:List Int}{Φ:List (World→Prop)}(hs:∀ (blk off cap:Nat) (zs:List Int) (w:World),Go.Sort.Holds (Value.int .i64) w blk off zs.toArray→blk<w.heap.size→zs.length<4611686018427387904 →
   Calls P f #[.slice (some ⟨blk,off,none⟩) zs.length cap] w fun e w'=>e=.returned (.tuple #[])∧∃ n os,w'=Go.Sort.grow (Go.Sort.putRow (Value.int .i64) (Go.Sort.ahead w n) blk off (zs.mergeSort fun x y=>decide (x≤y)).toArray) os)(hn:∀ (p:Option Addr) (cap:Nat) (w:World),Calls P f #[.slice p 0 cap] w fun e w'=>e=.returned (.tuple #[])∧w'=w)(hx:xs.length<4611686018427387904) :
  PureM P f [.slice a xs.length c] [] [Ro (eI .i64) e 1 (.slice a xs.length c) xs] Φ Unit (fun _=>.tuple #[]) (fun _=>[]) (fun _=>[Ro (eI .i64) e 1 (.slice a (srt xs).length c) (srt xs)]):=by
 intro w hp
 simp only[qBr] at hs
 have hown:=hp.row _ (qCI.2 rfl)
 have hp0:Hp (muts [] [Ro (eI .i64) e 1 (.slice a xs.length c) xs]) w w [] [Ro (eI .i64) e 1 (.slice a xs.length c) xs] []:=hp.weaken (qCS _) (qCS _) (fun φ h=>by simp at h)
 rcases hown.2 with ⟨h5,h6⟩ | ⟨g,cap,cur,h5,_,hgg,hnc,hcm,hcs,htake⟩
 ·have h6':xs.length=0:=h6
  have hxs:xs=[]:=qDF.1 h6'
  subst hxs
  have hm:srt []=[]:=rfl
  rw[hm]
  exact (hn a c w).mono (fun e' w' ⟨h1,h2⟩=>⟨(),h1,by rw[h2];exact hp0⟩)
 ·have h5':Value.slice a xs.length c=.slice (some ⟨g,0,none⟩) xs.length cap:=h5
  simp only[Value.slice.injEq,true_and] at h5'
  obtain ⟨rfl,rfl⟩:=h5'
  have hgg':w.heap[g]?=some (.cells cur e (0,0)):=hgg
  have htake':cur.toList.take xs.length=xs.map (Value.int .i64):=by
   have:cur.toList.take (xs.length*1)=xs.flatMap (eI .i64):=htake
   rwa [qDn,qiZ] at this
  have hcs':cur.size=c:=by have:cur.size=c*1:=hcs;omega
  have hnc':xs.length≤c:=hnc
  have hlt:=(Array.getElem?_eq_some_iff.1 hgg').1
  refine (hs g 0 c xs w (row_holds hgg' htake') hlt hx).mono (fun e' w' ⟨h1,n,os,h2⟩=>⟨(),h1,?_⟩)
  subst h2
  refine hp0.swapRow (i:=0) rfl ?_ (.inl ⟨rfl,qhn⟩)
  have hz:((Go.Sort.putRow (Value.int .i64) (Go.Sort.ahead w n) g 0 (srt xs).toArray).heap++os)[g]?=some (.cells (Go.Sort.putCells (Value.int .i64) 0 (srt xs).toArray cur) e (0,0)):=by
   have h3:=qko (w:=Go.Sort.ahead w n) (d:=(srt xs).toArray) hgg'
   rw[Array.getElem?_append_left ((Array.getElem?_eq_some_iff.1 h3).1)]
   exact h3
  refine ⟨qV (qC .i64) (srt xs),.inr ⟨g,c,_,rfl,qCT _,hz,?_,hcm,?_,?_⟩⟩
  ·show (srt xs).length≤c;rw[qii];exact hnc'
  ·show _=c*1;rw[qgL,hcs',qDn]
  ·show (Go.Sort.putCells (Value.int .i64) 0 (srt xs).toArray cur).toList.take ((srt xs).length*1)=(srt xs).flatMap (eI .i64)
   rw[qDn,qiZ]
   exact qgM (by rw[qii];omega)
theorem qmM {f:FuncId}{a:Option Addr}{xs:List Int}{Φ:List (World→Prop)}(hs:∀ (blk off cap:Nat) (zs:List Int) (w:World),Go.Sort.Holds (Value.int .i64) w blk off zs.toArray→zs.length≤9223372036854775807→zs.length≤cap →
   Calls P f #[.slice (some ⟨blk,off,none⟩) zs.length cap] w fun e w'=>e=.returned (.slice (some ⟨blk,off,none⟩) (Go.Lib.compact zs).length cap)∧∃ q,w'=Go.Sort.putRow (Value.int .i64) (Go.Sort.ahead w q) blk off (Go.Lib.compact zs++qCo (zs.length-(Go.Lib.compact zs).length) 0).toArray)(hn:∀ (p:Option Addr) (cap:Nat) (w:World),Calls P f #[.slice p 0 cap] w fun e w'=>e=.returned (.slice p 0 cap)∧w'=w)(hle:(Go.Lib.compact xs).length≤xs.length) :
  PureM P f [.slice a xs.length c] [] [Ro (eI .i64) e 1 (.slice a xs.length c) xs] Φ (Option Addr×Nat) (fun g=>.slice g.1 (Go.Lib.compact xs).length g.2) (fun _=>[]) (fun g=>[Ro (eI .i64) e 1 (.slice g.1 (Go.Lib.compact xs).length g.2) (Go.Lib.compact xs)]):=by
 intro w hp
 have hown:=hp.row _ (qCI.2 rfl)
 have hp0:Hp (muts [] [Ro (eI .i64) e 1 (.slice a xs.length c) xs]) w w [] [Ro (eI .i64) e 1 (.slice a xs.length c) xs] []:=hp.weaken (qCS _) (qCS _) (fun φ h=>by simp at h)
 rcases hown.2 with ⟨h5,h6⟩ | ⟨g,cap,cur,h5,_,hgg,hnc,hcm,hcs,htake⟩
 ·have h6':xs.length=0:=h6
  have hxs:xs=[]:=qDF.1 h6'
  subst hxs
  have hc0:Go.Lib.compact ([]:List Int)=[]:=qDF.1 (by simpa using hle)
  rw[hc0]
  exact (hn a c w).mono (fun e' w' ⟨h1,h2⟩=>⟨(a,c),h1,by rw[h2];exact hp0⟩)
 ·have h5':Value.slice a xs.length c=.slice (some ⟨g,0,none⟩) xs.length cap:=h5
  simp only[Value.slice.injEq,true_and] at h5'
  obtain ⟨rfl,rfl⟩:=h5'
  have hgg':w.heap[g]?=some (.cells cur e (0,0)):=hgg
  have htake':cur.toList.take xs.length=xs.map (Value.int .i64):=by
   have:cur.toList.take (xs.length*1)=xs.flatMap (eI .i64):=htake
   rwa [qDn,qiZ] at this
  have hcs':cur.size=c:=by have:cur.size=c*1:=hcs;omega
  have hnc':xs.length≤c:=hnc
  have hcm':c≤9223372036854775807:=hcm
  refine (hs g 0 c xs w (row_holds hgg' htake') (by omega) hnc').mono (fun e' w' ⟨h1,n,h2⟩=>⟨(some ⟨g,0,none⟩,c),h1,?_⟩)
  subst h2
  have hk:=qhn (w:=w) (g:=g) (n:=n) (d:=(Go.Lib.compact xs++qCo (xs.length-(Go.Lib.compact xs).length) 0).toArray) (os:=#[])
  rw[Go.Sort.grow_empty] at hk
  refine hp0.swapRow (i:=0) rfl ?_ (.inl ⟨rfl,hk⟩)
  have hz:=qko (w:=Go.Sort.ahead w n) (d:=(Go.Lib.compact xs++qCo (xs.length-(Go.Lib.compact xs).length) 0).toArray) hgg'
  have hdl:(Go.Lib.compact xs++qCo (xs.length-(Go.Lib.compact xs).length) 0).length=xs.length:=by rw[qCt,qC3];omega
  refine ⟨qV (qC .i64) (Go.Lib.compact xs),.inr ⟨g,c,_,rfl,qCT _,hz,?_,hcm,?_,?_⟩⟩
  ·show (Go.Lib.compact xs).length≤c;omega
  ·show _=c*1;rw[qgL,hcs',qDn]
  ·show (Go.Sort.putCells (Value.int .i64) 0 _ cur).toList.take ((Go.Lib.compact xs).length*1)=(Go.Lib.compact xs).flatMap (eI .i64)
   have h4:=qgM (cur:=cur) (zs:=Go.Lib.compact xs++qCo (xs.length-(Go.Lib.compact xs).length) 0) (by rw[hdl];omega)
   have h6:=congrArg (List.take (Go.Lib.compact xs).length) h4
   rw[qEN,qEe (by rw[hdl];exact hle),qDD,qD0 (by simp)] at h6
   rw[qDn,qiZ]
   exact h6
theorem qok {f:FuncId}{a:Option Addr}{xs:List Int}{x4 x5:Int}{Φ:List (World→Prop)}(hs:∀ (blk off cap i j:Nat) (d:Array Int) (w:World),Go.Sort.Holds (Value.int .i64) w blk off d→d.size≤cap→cap≤9223372036854775807→i≤j→j≤d.size →
   Calls P f #[.slice (some ⟨blk,off,none⟩) d.size cap,.int .i64 i,.int .i64 j] w fun e w'=>e=.returned (.slice (some ⟨blk,off,none⟩) (d.size-(j-i)) cap)∧∃ q,w'=Go.Sort.putRow (Value.int .i64) (Go.Sort.ahead w q) blk off (d.toList.take i++d.toList.drop j++qCo (j-i) 0).toArray)(hle:0≤x4∧x4≤x5∧x5≤(xs.length:Int)∧0<xs.length) :
  PureM P f [.slice a xs.length c,.int .i64 x4,.int .i64 x5] [] [Ro (eI .i64) e 1 (.slice a xs.length c) xs] Φ (Option Addr×Nat) (fun g=>.slice g.1 (xs.take x4.toNat++xs.drop x5.toNat).length g.2) (fun _=>[]) (fun g=>[Ro (eI .i64) e 1 (.slice g.1 (xs.take x4.toNat++xs.drop x5.toNat).length g.2) (xs.take x4.toNat++xs.drop x5.toNat)]):=by
 intro w hp
 obtain ⟨h0,h1,h2,h3⟩:=hle
 obtain ⟨i,rfl⟩:=qCp h0
 obtain ⟨j,rfl⟩:=qCp (qEZ h0 h1)
 have hij:i≤j:=by omega
 have hj:j≤xs.length:=by omega
 simp only[qCs]
 have hown:=hp.row _ (qCI.2 rfl)
 have hp0:Hp (muts [] [Ro (eI .i64) e 1 (.slice a xs.length c) xs]) w w [] [Ro (eI .i64) e 1 (.slice a xs.length c) xs] []:=hp.weaken (qCS _) (qCS _) (fun φ h=>by simp at h)
 rcases hown.2 with ⟨h5,h6⟩ | ⟨g,cap,cur,h5,_,hgg,hnc,hcm,hcs,htake⟩
 ·have h6':xs.length=0:=h6
  omega
 ·have h5':Value.slice a xs.length c=.slice (some ⟨g,0,none⟩) xs.length cap:=h5
  simp only[Value.slice.injEq,true_and] at h5'
  obtain ⟨rfl,rfl⟩:=h5'
  have hgg':w.heap[g]?=some (.cells cur e (0,0)):=hgg
  have htake':cur.toList.take xs.length=xs.map (Value.int .i64):=by
   have:cur.toList.take (xs.length*1)=xs.flatMap (eI .i64):=htake
   rwa [qDn,qiZ] at this
  have hcs':cur.size=c:=by have:cur.size=c*1:=hcs;omega
  have hnc':xs.length≤c:=hnc
  have hcm':c≤9223372036854775807:=hcm
  have hyl:(xs.take i++xs.drop j).length=xs.length-(j-i):=by rw[qCt,qCA,qCP];omega
  refine (hs g 0 c i j xs.toArray w (row_holds hgg' htake') (by simpa using hnc') hcm' hij (by simpa using hj)).mono (fun e' w' ⟨h1,n,h2⟩=>⟨(some ⟨g,0,none⟩,c),?_,?_⟩)
  ·rw[h1,hyl];rfl
  subst h2
  have hk:=qhn (w:=w) (g:=g) (n:=n) (d:=(xs.take i++xs.drop j++qCo (j-i) 0).toArray) (os:=#[])
  rw[Go.Sort.grow_empty] at hk
  refine hp0.swapRow (i:=0) rfl ?_ (.inl ⟨rfl,hk⟩)
  have hz:=qko (w:=Go.Sort.ahead w n) (d:=(xs.take i++xs.drop j++qCo (j-i) 0).toArray) hgg'
  have hdl:(xs.take i++xs.drop j++qCo (j-i) 0).length=xs.length:=by rw[qCt,qC3,hyl];omega
  refine ⟨qV (qC .i64) (xs.take i++xs.drop j),.inr ⟨g,c,_,rfl,qCT _,hz,?_,hcm,?_,?_⟩⟩
  ·show (xs.take i++xs.drop j).length≤c;omega
  ·show _=c*1;rw[qgL,hcs',qDn]
  ·show (Go.Sort.putCells (Value.int .i64) 0 _ cur).toList.take ((xs.take i++xs.drop j).length*1)=(xs.take i++xs.drop j).flatMap (eI .i64)
   have h4:=qgM (cur:=cur) (zs:=xs.take i++xs.drop j++qCo (j-i) 0) (by rw[hdl];omega)
   have h6:=congrArg (List.take (xs.take i++xs.drop j).length) h4
   rw[qEN,qEe (by rw[hdl,hyl];omega),qDD,qD0 (by simp)] at h6
   rw[qDn,qiZ]
   exact h6
theorem k5 {k:IntKind}{cs:Array Value}{o:Nat}{v:Value}(h:P.underlying t=some (.int k))(hv:cs[o]?=some v):(part t cs o).run P w=.ok v w:=by
 simp[part,isAgg,run_underlying h,hv]
theorem qpZ {f0 f1 : Field}{k0 k1 : IntKind}{a b c d : Int}(hs : P.underlying t = some (.struct #[f0, f1]))(hst : P.stoodInHeld t = false)(n0 : f0.name ≠ "_")(n1 : f1.name ≠ "_")(o0 : f0.offset = 0)(o1 : f1.offset = 1)(h0:P.underlying f0.type=some (.int k0))(h1:P.underlying f1.type=some (.int k1)):(Op.equal t (.agg #[.int k0 a,.int k1 b]) (.agg #[.int k0 c,.int k1 d])).run P w=.ok ((a == c) && (b == d)) w:=by
 have hf:P.fieldsOf t=#[f0,f1]:=by simp[Program.fieldsOf,hs]
 unfold Op.equal Op.maxDepth
 rw[run_equalIn_agg w 9999 t _ _ (by rw[hf];exact hs) hst,hf]
 simp only[Op.eqFields,o0,o1]
 rw[if_pos n0]
 simp only[Sem.run_bind]
 rw[k5 h0 (v:=.int k0 a) rfl]
 simp only[Result.andThen_ok]
 rw[k5 h0 (v:=.int k0 c) rfl]
 simp only[Result.andThen_ok]
 rw[run_equalIn_int w 9998 _ k0 k0 a c h0]
 simp only[Result.andThen_ok]
 by_cases e:a=c
 ·subst e
  simp only[beq_self_eq_true,qDl,qCF,if_false]
  rw[if_pos n1]
  simp only[Sem.run_bind]
  rw[k5 h1 (v:=.int k1 b) rfl]
  simp only[Result.andThen_ok]
  rw[k5 h1 (v:=.int k1 d) rfl]
  simp only[Result.andThen_ok]
  rw[run_equalIn_int w 9998 _ k1 k1 b d h1]
  simp only[Result.andThen_ok]
  by_cases e2:b=d
  ·subst e2;simp
  ·simp[e2]
 ·simp[e]
class StE2 (P:Program) (t:TypeId) (k0 k1:outParam IntKind):Prop where
 out : ∃ f0 f1 : Field, P.underlying t = some (.struct #[f0, f1]) ∧ P.stoodInHeld t = false ∧ P.eqGuardType P.depth t = false ∧ f0.name ≠ "_" ∧ f1.name ≠ "_" ∧ f0.offset = 0 ∧ f1.offset = 1 ∧ P.underlying f0.type = some (.int k0) ∧ P.underlying f1.type = some (.int k1)
variable {xt yt:TypeId}
theorem yG.part {b o:Nat}{cs:List Value}(h:yG b o cs w):yG b (o+off) ((cs.drop off).take k) w:=by
 intro j u hj
 have hlt:j<k:=by have:=(qCx.1 hj).1;simp at this;omega
 rw[qCK hlt,qDs] at hj
 rw[Nat.add_assoc]
 exact h _ _ hj
theorem qp0 {f0 f1 f2 : Field}{k0 k1 k2 : IntKind}{a b c a' b' c' : Int}(hs : P.underlying t = some (.struct #[f0, f1, f2]))(hst : P.stoodInHeld t = false)(n0 : f0.name ≠ "_")(n1 : f1.name ≠ "_")(n2 : f2.name ≠ "_")(o0 : f0.offset = 0)(o1 : f1.offset = 1)(o2 : f2.offset = 2)(h0:P.underlying f0.type=some (.int k0))(h1:P.underlying f1.type=some (.int k1))(h2:P.underlying f2.type=some (.int k2)):(Op.equal t (.agg #[.int k0 a,.int k1 b,.int k2 c]) (.agg #[.int k0 a',.int k1 b',.int k2 c'])).run P w=.ok ((a == a') && ((b == b') && (c == c'))) w:=by
 have hf:P.fieldsOf t=#[f0,f1,f2]:=by simp[Program.fieldsOf,hs]
 unfold Op.equal Op.maxDepth
 rw[run_equalIn_agg w 9999 t _ _ (by rw[hf];exact hs) hst,hf]
 simp only[Op.eqFields,o0,o1,o2]
 rw[if_pos n0]
 simp only[Sem.run_bind]
 rw[k5 h0 (v:=.int k0 a) rfl]
 simp only[Result.andThen_ok]
 rw[k5 h0 (v:=.int k0 a') rfl]
 simp only[Result.andThen_ok]
 rw[run_equalIn_int w 9998 _ k0 k0 a a' h0]
 simp only[Result.andThen_ok]
 by_cases e:a=a'
 ·subst e
  simp only[beq_self_eq_true,qDl,qCF,if_false]
  rw[if_pos n1]
  simp only[Sem.run_bind]
  rw[k5 h1 (v:=.int k1 b) rfl]
  simp only[Result.andThen_ok]
  rw[k5 h1 (v:=.int k1 b') rfl]
  simp only[Result.andThen_ok]
  rw[run_equalIn_int w 9998 _ k1 k1 b b' h1]
  simp only[Result.andThen_ok]
  by_cases e1:b=b'
  ·subst e1
   simp only[beq_self_eq_true,qDl,qCF,if_false]
   rw[if_pos n2]
   simp only[Sem.run_bind]
   rw[k5 h2 (v:=.int k2 c) rfl]
   simp only[Result.andThen_ok]
   rw[k5 h2 (v:=.int k2 c') rfl]
   simp only[Result.andThen_ok]
   rw[run_equalIn_int w 9998 _ k2 k2 c c' h2]
   simp only[Result.andThen_ok]
   by_cases e2:c=c'
   ·subst e2;simp
   ·simp[e2]
  ·simp[e1]
 ·simp[e]
class StE3 (P:Program) (t:TypeId) (k0 k1 k2:outParam IntKind):Prop where
 out : ∃ f0 f1 f2 : Field, P.underlying t = some (.struct #[f0, f1, f2]) ∧ P.stoodInHeld t = false ∧ P.eqGuardType P.depth t = false ∧ f0.name ≠ "_" ∧ f1.name ≠ "_" ∧ f2.name ≠ "_" ∧ f0.offset = 0 ∧ f1.offset = 1 ∧ f2.offset = 2 ∧ P.underlying f0.type = some (.int k0) ∧ P.underlying f1.type = some (.int k1) ∧ P.underlying f2.type = some (.int k2)
theorem qxP {y:Operand}{k0 k1 k2:IntKind}{a b c a' b' c':Int}(hw:wants ops l ⟨some d,.binOp .eql xt x y yt,t,pos,af,gd⟩=some true)(hx:ev l x=some (.agg #[.int k0 a,.int k1 b,.int k2 c]))(hy:ev l y=some (.agg #[.int k0 a',.int k1 b',.int k2 c']))(hE:StE3 P xt k0 k1 k2)(hd:Nat.blt d n=true)(h:SXO P ro n D M0 w0 Q ops rest ((d,.bool ((a == a') && ((b == b') && (c == c'))))::l) B R F m r):SXO P ro n D M0 w0 Q ops (⟨some d,.binOp .eql xt x y yt,t,pos,af,gd⟩::rest) l B R F m r :=
 qP _ hw rfl hd (fun ac w hf _=>by
  obtain ⟨f0,f1,f2,hs,hst,hg,n0,n1,n2,o0,o1,o2,u0,u1,u2⟩:=hE.out
  have h1:=hf.ev hx
  have h2:=hf.ev hy
  have he:=qp0 (w:=w) (a:=a) (b:=b) (c:=c) (a':=a') (b':=b') (c':=c') hs hst n0 n1 n2 o0 o1 o2 u0 u1 u2
  generalize ac.eval=ε at h1 h2 ⊢
  simp[execOp,h1,h2,run_eqGuard_agg,hg,binOp,he]) h
def SlN {α γ:Type}(enc:α×γ→List Value)(inn:α×γ→List (World→Prop))(size:Nat)(v:Value)(xs:List α)(gs:List γ)(w:World):Prop :=
 gs.length=xs.length∧Sl enc size v (xs.zip gs) w∧∀ p∈xs.zip gs,∀ φ∈inn p,φ w
theorem qz1 {α γ:Type}:∀ {xs:List α} {gs:List γ} {i:Nat} {p:α×γ},(xs.zip gs)[i]?=some p→xs[i]?=some p.1:=by
 intro xs gs i p h
 rw[qEp] at h
 exact h.1
theorem yj {α γ:Type}{xs:List α}{gs:List γ}(h:gs.length=xs.length):(xs.zip gs).length=xs.length:=by
 rw[List.length_zip,h,Nat.min_self]
theorem qox {α γ:Type}{xs:List α}{gs:List γ}(h:gs.length=xs.length)(i:Int)(k:α→Option ρ):(idx (xs.zip gs) i).bind (fun p=>k p.1)=(idx xs i).bind k:=by
 unfold idx
 split
 ·cases hx:xs[i.toNat]? with
  | none =>
   have h1:xs.length≤i.toNat:=List.getElem?_eq_none_iff.1 hx
   have h2:(xs.zip gs)[i.toNat]?=none:=qC7 (by rw[yj h];exact h1)
   rw[h2];rfl
  | some y =>
   have h1:=(qCx.1 hx).1
   have h2:(xs.zip gs)[i.toNat]?=some (y,gs[i.toNat]'(by omega)):=by
    rw[qEp]
    exact ⟨hx,qCn (by omega)⟩
   rw[h2];rfl
 ·rfl
theorem qhh {α γ:Type}{xs:List α}{gs:List γ}{i:Int}{p:α×γ}(h:idx (xs.zip gs) i=some p):idx xs i=some p.1:=by
 unfold idx at h ⊢
 split
 ·rename_i h0
  rw[if_pos h0] at h
  exact qz1 h
 ·rename_i h0
  rw[if_neg h0] at h
  simp at h
theorem Hp.nestLen {α γ:Type}{enc:α×γ→List Value}{inn:α×γ→List (World→Prop)}{v:Value}{xs:List α}{gs:List γ}(h:Hp M0 w0 w B R F)(hF:F[j]?=some (SlN enc inn size v xs gs)):gs.length=xs.length :=
 (h.per _ (qCq hF)).here.1
theorem Hp.nestIn {α γ:Type}{enc:α×γ→List Value}{inn:α×γ→List (World→Prop)}{v:Value}{xs:List α}{gs:List γ}{p:α×γ}(h:Hp M0 w0 w B R F)(hF:F[j]?=some (SlN enc inn size v xs gs))(hp:p∈xs.zip gs):∀ φ∈inn p,Nec w (muts B R) φ :=
 fun φ hφ w' hk=>(h.per _ (qCq hF) w' hk).2.2 p hp φ hφ
theorem Hp.nestSl {α γ:Type}{enc:α×γ→List Value}{inn:α×γ→List (World→Prop)}{v:Value}{xs:List α}{gs:List γ}(h:Hp M0 w0 w B R F)(hF:F[j]?=some (SlN enc inn size v xs gs)):Nec w (muts B R) (Sl enc size v (xs.zip gs)) :=
 fun w' hk=>(h.per _ (qCq hF) w' hk).2.1
theorem Hp.dropSecond {φ ψ:World→Prop}{L:List (World→Prop)}(h:Hp M0 w0 w B R (φ::ψ::F))(hL:∀ χ∈L,Nec w (muts B R) χ):Hp M0 w0 w B R (φ::(L++F)) :=
 { h with per:=fun χ hχ=>(qCu.1 hχ).elim (fun e=>e▸h.per _ (by simp)) fun hχ=>(qCr.1 hχ).elim (fun hχ=>hL _ hχ) fun hχ=>h.per _ (by simp[hχ]) }
theorem qi5 {α γ:Type}{enc:α×γ→List Value}{inn:α×γ→List (World→Prop)}{xs:List α}{gs:List γ}{k:α→Option ρ}{i:Int}{v:Value}(henc:EncOk enc size)(hs0:size≠0)(hw:wants ops l ⟨some d,.indexAddr t' x ix,t,pos,af,gd⟩=some true)(ht:P.underlying t'=some (.slice e))(hT:TyF P e agg z size bytes)(hx:ev l x=some v)(hi:ev l ix=some (.int ki i))(hF:F[j]?=some (SlN enc inn size v xs gs))(hd:Nat.blt d n=true)(h:∀ y,idx xs i=some y→∀ q b o,SXO P ro n D M0 w0 Q ops rest ((d,.pointer (some ⟨b,o,none⟩))::l) B R (yG b o (enc (y,q))::(inn (y,q)++F)) (k y) r) :
  SXO P ro n D M0 w0 Q ops (⟨some d,.indexAddr t' x ix,t,pos,af,gd⟩::rest) l B R F ((idx xs i).bind k) r:=by
 intro hm a w hf hp
 have hl:=hp.nestLen hF
 have hs:=hp.nestSl hF
 rw[← qox hl] at hm
 refine vZ (F:=Sl enc size v (xs.zip gs)::F) (j:=0) henc hs0 hw ht hT hx hi rfl hd (fun p hq b o=>?_) hm a w hf (hp.addFact hs)
 intro hm' a' w' hf' hp'
 have hmem:p∈xs.zip gs:=by
  obtain ⟨_,_,h3⟩:=qu hq
  exact qCq h3
 have hF':(yG b o (enc p)::Sl enc size v (xs.zip gs)::F)[j+2]?=some (SlN enc inn size v xs gs):=by simpa using hF
 exact h p.1 (qhh hq) p.2 b o hm' a' w' hf' (hp'.dropSecond (hp'.nestIn hF' hmem))
theorem qqQ {x:Code}{α γ:Type}{enc:α×γ→List Value}{inn:α×γ→List (World→Prop)}{xs:List α}{gs:List γ}{k:α→Option ρ}{i:Int}(henc:EncOk enc size)(hs0:size≠0)(hF:F[j]?=some (SlN enc inn size (.slice ao xs.length c) xs gs))(h:∀ y,idx xs i=some y→∀ q b o,ao=some ⟨b,o,none⟩→SXC P ro n D M0 w0 Q x l B R (yG b (o+i.toNat*size) (enc (y,q))::(inn (y,q)++F)) (k y) r) :
  SXC P ro n D M0 w0 Q x l B R F ((idx xs i).bind k) r:=by
 intro hm a w hf hp
 have hl:=hp.nestLen hF
 have hs:=hp.nestSl hF
 rw[← qox hl] at hm
 rw[← yj hl] at hs
 refine qfY (F:=Sl enc size (.slice ao (xs.zip gs).length c) (xs.zip gs)::F) (j:=0) henc hs0 rfl (fun p hq b o ha=>?_) hm a w hf (hp.addFact hs)
 intro hm' a' w' hf' hp'
 have hmem:p∈xs.zip gs:=by
  obtain ⟨_,_,h3⟩:=qu hq
  exact qCq h3
 have hF':(yG b (o+i.toNat*size) (enc p)::Sl enc size (.slice ao (xs.zip gs).length c) (xs.zip gs)::F)[j+2]?=some (SlN enc inn size (.slice ao xs.length c) xs gs):=by simpa using hF
 exact h p.1 (qhh hq) p.2 b o ha hm' a' w' hf' (hp'.dropSecond (hp'.nestIn hF' hmem))
theorem qub {α γ:Type}{xs:List α}{gs:List γ}(L H:Nat):((xs.zip gs).take H).drop L=((xs.take H).drop L).zip ((gs.take H).drop L):=by
 apply qDb
 intro i
 rw[qDs]
 by_cases h:L+i<H
 ·rw[qCK h]
  simp only[List.zip,List.getElem?_zipWith,qDs]
  rw[qCK h,qCK h]
 ·rw[qC7 (by rw[qCA];omega),qC7 (by rw[List.length_zip,qCP,qCA];omega)]
theorem qu0 {x:Code}{α γ:Type}{enc:α×γ→List Value}{inn:α×γ→List (World→Prop)}{xs:List α}{gs:List γ}{k:List α→Option ρ}{li hj:Int}(j:Nat)(henc:EncOk enc size)(hF:F[j]?=some (SlN enc inn size (.slice ao xs.length c) xs gs))(h:∀ ys,sub xs li hj=some ys→∀ a' c' gs',cutv ao c size li hj=.slice a' ys.length c'→xs.length≤c→SXC P ro n D M0 w0 Q x l B R (SlN enc inn size (.slice a' ys.length c') ys gs'::F) (k ys) r) :
  SXC P ro n D M0 w0 Q x l B R F ((sub xs li hj).bind k) r:=by
 intro hm a w hf hp
 have hl:=hp.nestLen hF
 have hs:=hp.nestSl hF
 cases hq:sub xs li hj with
 | none=>rw[hq] at hm;simp at hm
 | some ys =>
  rw[hq] at hm
  obtain ⟨b1,b2,b3,b4⟩:=qdO hq
  have hz:sub (xs.zip gs) li hj=some (ys.zip ((gs.take hj.toNat).drop li.toNat)):=by
   unfold sub
   rw[if_pos ⟨b1,b2,by rw[yj hl];exact b3⟩,qub,b4]
  have hlen:((gs.take hj.toNat).drop li.toNat).length=ys.length:=by rw[b4];simp only[qCP,qCA,hl]
  refine qqO (c:=c) (ao:=ao) (xs:=xs.zip gs) (F:=Sl enc size (.slice ao xs.length c) (xs.zip gs)::F) (k:=fun _=>k ys) (r:=r) 0 henc (by rw[yj hl];rfl) (fun zs hzs a' c' hv hc=>?_) (by rw[hz];simpa using hm) a w hf (hp.addFact hs)
  have:zs=ys.zip ((gs.take hj.toNat).drop li.toNat):=by rw[hz] at hzs;exact (Option.some.inj hzs).symm
  subst this
  intro hm' a2 w' hf' hp'
  rw[yj hlen] at hv hp'
  rw[yj hl] at hc
  refine h ys hq a' c' ((gs.take hj.toNat).drop li.toNat) hv hc hm' a2 w' hf' ((hp'.weaken (F':=F) (qCS _) (qCS _) (fun φ h=>qCD _ (qCD _ h))).addFact fun w2 hk=>?_)
  refine ⟨hlen,hp'.per _ (qCC ..) w2 hk,fun p hpm φ hφ=>?_⟩
  have hF':(Sl enc size (.slice a' ys.length c') (ys.zip ((gs.take hj.toNat).drop li.toNat))::Sl enc size (.slice ao xs.length c) (xs.zip gs)::F)[j+2]?=some (SlN enc inn size (.slice ao xs.length c) xs gs):=by simpa using hF
  refine hp'.nestIn hF' ?_ φ hφ w2 hk
  rw[b4,← qub] at hpm
  exact List.mem_of_mem_take (List.mem_of_mem_drop hpm)
theorem qnB {α γ:Type}{enc:α×γ→List Value}{inn:α×γ→List (World→Prop)}{v:Value}(xs:List α)(gs:List γ)(i:Nat)(hl:gs.length=xs.length)(hR:R[i]?=some (Ro enc e size v (xs.zip gs)))(hin:∀ φ∈(xs.zip gs).flatMap inn,φ∈F)(h:SXO P ro n D M0 w0 Q ops rest l B (R.eraseIdx i) (SlN enc inn size v xs gs::F) m r):SXO P ro n D M0 w0 Q ops rest l B R F m r:=by
 intro hm a w hf hp
 have hp2:=hp.freeze hR
 have hp1:Hp M0 w0 w B (R.eraseIdx i) F:=hp2.weaken (qCS _) (qCS _) (fun φ h=>qCD _ h)
 refine h hm a w hf (hp1.addFact fun w' hk=>⟨hl,hp2.per _ (qCC ..) w' hk,fun p hp φ hφ=>hp1.per φ (hin φ (qDq.2 ⟨p,hp,hφ⟩)) w' hk⟩)
theorem qzx {s e':TypeId}(hw:wants ops l ⟨some d,.call ⟨.builtin .cap,#[x],#[s]⟩,t,pos,af,gd⟩=some true)(ht:P.underlying s=some (.slice e'))(hx:ev l x=some (.slice ao k c))(hd:Nat.blt d n=true)(h:SXO P ro n D M0 w0 Q ops rest ((d,.int .i64 (c:Int))::l) B R F m r):SXO P ro n D M0 w0 Q ops (⟨some d,.call ⟨.builtin .cap,#[x],#[s]⟩,t,pos,af,gd⟩::rest) l B R F m r :=
 qP (.int .i64 (c:Int)) hw rfl hd (fun a w hf _=>by
  have h1:=hf.ev hx
  generalize a.eval=e at h1 ⊢
  simp[h1,Builtin.cap_,run_underlying ht,goInt,execOp,resolve,invoke,builtin]) h
theorem qqU {α:Type}{enc:α→List Value}{xs:List α}{k:List α→Option ρ}{hi:Option Operand}{hj:Int}{i:Nat}(henc:EncOk enc size)(hw:wants ops l ⟨some d,.slice t' x none hi none,t,pos,af,gd⟩=some true)(ht:P.underlying t'=some (.slice e))(hT:TyF P e agg z size bytes)(hx:ev l x=some (.slice ao xs.length c))(hhi:evOpt l hi (xs.length:Int)=some hj)(hR:R[i]?=some (Ro enc e size (.slice ao xs.length c) xs))(hd:Nat.blt d n=true)(h:∀ ys,sub xs 0 hj=some ys→SXO P ro n D M0 w0 Q ops rest ((d,.slice ao ys.length c)::l) B (Ro enc e size (.slice ao ys.length c) ys::R.eraseIdx i) F (k ys) r) :
  SXO P ro n D M0 w0 Q ops (⟨some d,.slice t' x none hi none,t,pos,af,gd⟩::rest) l B R F ((sub xs 0 hj).bind k) r:=by
 refine k6 hw fun hm a w hf hp=>?_
 cases hq:sub xs 0 hj with
 | none=>rw[hq] at hm;simp at hm
 | some ys =>
  rw[hq] at hm
  have hm':k ys=some r:=by simpa using hm
  obtain ⟨_,b2,b3,hys⟩:=qdO hq
  obtain ⟨H,rfl⟩:=qCp b2
  have b3':H≤xs.length:=by omega
  have hys':ys=xs.take H:=by rw[hys];simp
  have hyl:ys.length=H:=by rw[hys',qCA];omega
  have hown:=hp.row _ (qCq hR)
  have hcap:xs.length≤c:=by
   rcases hown.2 with ⟨h5,h6⟩ | ⟨g,cap,cur,h5,_,hgg,hnc,_⟩
   ·have h6':xs.length=0:=h6
    omega
   ·have h5':Value.slice ao xs.length c=.slice (some ⟨g,0,none⟩) xs.length cap:=h5
    simp only[Value.slice.injEq,true_and] at h5'
    have:xs.length≤cap:=hnc
    omega
  refine ⟨.slice ao H c,w,?_,?_⟩
  ·have h1:=hf.ev hx
   have e2:=qd7 hf hhi
   have hb0:(0:Int)≤(H:Int):=by omega
   have hb1:(H:Int)≤(c:Int):=by omega
   have hn1:H≤c:=by omega
   have hb9:(if c=0 then ao else ao.map (·.add (0*size)))=ao:=by
    split
    ·rfl
    ·rcases hown.2 with ⟨h5,h6⟩ | ⟨g,cap,cur,h5,_,hgg,hnc,_⟩
     ·have h5':Value.slice ao xs.length c=.slice none 0 0:=h5
      simp only[Value.slice.injEq] at h5'
      rw[h5'.1];rfl
     ·have h5':Value.slice ao xs.length c=.slice (some ⟨g,0,none⟩) xs.length cap:=h5
      simp only[Value.slice.injEq,true_and] at h5'
      rw[h5'.1]
      simp[Addr.add_lit]
   generalize hε:a.eval=ε at h1 e2 ⊢
   rcases e2 with ⟨k2,e2⟩ | ⟨rfl,e2⟩
   ·simp[execOp,h1,e2,Instr.sliceAt,Instr.slice,Instr.sliceBounds,Instr.sliceBound,asIntOf,run_underlying ht,hT.run_size,hb0,hn1]
    first | exact hb9 | (simpa using hb9) | skip
   ·have:H=xs.length:=by omega
    subst this
    simp[execOp,h1,Instr.sliceAt,Instr.slice,Instr.sliceBounds,run_underlying ht,hT.run_size]
    first | exact hb9 | (simpa using hb9) | skip
  ·have hz:=h ys hq
   rw[hyl] at hz
   refine hz hm' _ _ (hf.put hd _) (hp.swapRow hR ?_ (.inl ⟨by cases ao <;> rfl,Keeps.refl _ _⟩))
   have hfl:=qV henc ys
   refine ⟨by show (ys.flatMap enc).length=ys.length*size;exact hfl,?_⟩
   rcases hown.2 with ⟨h5,h6⟩ | ⟨g,cap,cur,h5,hb,hgg,hnc,hcm,hcs,htake⟩
   ·have h5':Value.slice ao xs.length c=.slice none 0 0:=h5
    simp only[Value.slice.injEq] at h5'
    have h6':xs.length=0:=h6
    left
    show Value.slice ao H c=.slice none 0 0∧ys.length=0
    obtain ⟨rfl,_,rfl⟩:=h5'
    have:H=0:=by omega
    subst this
    exact ⟨rfl,hyl⟩
   ·have h5':Value.slice ao xs.length c=.slice (some ⟨g,0,none⟩) xs.length cap:=h5
    simp only[Value.slice.injEq,true_and] at h5'
    obtain ⟨rfl,rfl⟩:=h5'
    right
    refine ⟨g,c,cur,?_,hb,hgg,?_,hcm,hcs,?_⟩
    ·show Value.slice (some ⟨g,0,none⟩) H c=.slice (some ⟨g,0,none⟩) ys.length c
     rw[hyl]
    ·show ys.length≤c
     omega
    ·show cur.toList.take (ys.length*size)=ys.flatMap enc
     have ht':cur.toList.take (xs.length*size)=xs.flatMap enc:=htake
     rw[hyl,hys',qdI henc,← ht',qEN]
     congr 1
     have:=qCR size b3'
     omega
theorem qmT (hz:z.cells=#[z])(m:Nat):(Builtin.zeroCells z.cells m).toList=qCo m z:=by
 rw[hz]
 unfold Builtin.zeroCells
 apply qDe
 ·simp
 ·intro i h1 h2
  have hm1:i%1=0:=Nat.mod_one i
  simp[hm1]
theorem qqG (w:World){ti ty:TypeId}{kk:IntKind}(ht:P.underlying t=some (.slice e))(hti:P.underlying ti=some (.int ki))(hT:TyF P e false z 1 bytes)(hz1:z.cells=#[z])(hzo:z.oneCell'=true){v:Value}{xs:List Value}(hown:w.ownsRow 0 e 1 v n xs)(m:Nat)(h63:n+m≤maxLen)(hbytes:(n+m)*bytes≤140737488355328) :
  ∃ v' w',(Builtin.append_ #[t,ti] ty #[v,.int kk (m:Int)]).run P w=.ok v' w'∧w'.ownsRow 0 e 1 v' (n+m) (xs++qCo m z) ∧
   ((v'.ownBlock=v.ownBlock∧Keeps v.ownBlock.toList w w')∨(Keeps [] w w'∧∀ g,v'.ownBlock=some g→w.heap.size≤g)):=by
 obtain ⟨i,hi,hz,hsz,hby⟩:=hT.inf
 subst hby
 have hsmall:n+m≤9223372036854775807:=by simp only[maxLen] at h63;omega
 have hwrap:IntKind.i64.wrap (m:Int)=(m:Int):=by
  unfold IntKind.wrap
  simp only[IntKind.bits,IntKind.signed,show (2^64:Int)=18446744073709551616 from by decide,show (2^(64-1):Int)=9223372036854775808 from by decide]
  have e1:(m:Int)%18446744073709551616=m:=by omega
  rw[e1,if_neg (by simp;omega)]
 have hm0:¬ ((m:Int)<0):=by omega
 have hmb:m*i.bytes≤140737488355328:=qDf (qCR _ (by omega)) hbytes
 have hm48:¬ ((281474976710656:Int)<(m:Int)*(i.bytes:Int)):=by
  have:((m*i.bytes:Nat):Int)≤140737488355328:=by omega
  rw[Int.natCast_mul] at this
  omega
 have hmx0:¬ (9223372036854775807:Int)<(n:Int)+(m:Int):=by omega
 have hzc:(Builtin.zeroCells z.cells m).toList=qCo m z:=qmT hz1 m
 have hzc':Builtin.zeroCells #[z] m=(qCo m z).toArray:=by
  rw[← hzc,Array.toArray_toList,hz1]
 have happ:∀ w':World,(if m*1=0 then (pure #[]:Sem (Array Value)) else do pure (Builtin.zeroCells (← zeroValue e).cells m)).run P w'=.ok (qCo m z).toArray w':=by
  intro w'
  by_cases h0:m=0
  ·subst h0;simp
  ·have:¬ m*1=0:=by omega
   rw[if_neg this]
   simp[zeroValue,typeInfo,hi,hz,hz1,hzc']
 have hlen:(xs++qCo m z).length=(n+m)*1:=by rw[qCt,hown.1,qC3];omega
 have hfo:∀ w',w'.heap=w.heap→(Builtin.firstCells 1 n v).run P w'=.ok xs.toArray w':=fun w' hh=>qbo ((zr hown).heap hh)
 have grown:∀ (old:Nat),old<n+m →
   (w.drew.alloc (.cells (xs.toArray++(qCo m z).toArray++Builtin.zeroCells z.cells (grownCap w (n+m) old e-(n+m))) e)).ownsRow 0 e 1
    (.slice (some ⟨w.heap.size,0,none⟩) (n+m) (grownCap w (n+m) old e)) (n+m) (xs++qCo m z) ∧
   Keeps [] w (w.drew.alloc (.cells (xs.toArray++(qCo m z).toArray++Builtin.zeroCells z.cells (grownCap w (n+m) old e-(n+m))) e)):=by
  intro old ho
  have hge:=grownCap_ge w (n+m) old e
  have hcm:grownCap w (n+m) old e≤maxLen:=grownCap_le_maxLen w (n+m) old e h63
  have hx:=hown.1
  refine ⟨⟨hlen,.inr ⟨w.heap.size,_,_,rfl,qCT _,heap_alloc_new w.drew _,hge,hcm,?_,?_⟩⟩,⟨rfl,rfl,rfl,by simp,fun k hk _=>Go.RowKit.Below.heap_alloc w.drew _ k hk,fun _=>Nat.le_succ _⟩⟩
  ·simp only[Array.size_append,qDj,size_zeroCells,hz1,hx,qC3,qDj]
   simp
   omega
  ·simp only[Array.toList_append,qCv]
   rw[← qCv,← hlen]
   exact qDJ
 rcases hown.2 with ⟨rfl,rfl⟩ | ⟨g,cap,cur,rfl,hbg,hg,hnc,hcm,hcs,htake⟩
 ·have hx:xs=[]:=List.eq_nil_of_length_eq_zero (by simpa using hown.1)
  subst hx
  by_cases hm:m=0
  ·subst hm
   refine ⟨.slice none 0 0,w,?_,World.ownsRow_nil w 0 e 1,.inr ⟨Keeps.refl _ _,by simp[Value.ownBlock]⟩⟩
   simp[Builtin.append_,run_underlying ht,run_underlying hti,Go.sizeOf,typeInfo,hi,asInt,asIntOf,show IntKind.i64.wrap 0=0 from by decide]
  ·have hgr:=grown 0 (by omega)
   have h48:=qaP (need:=0+m) (cap:=0) (by omega) hbytes
   simp only[qDg,qCM,Array.empty_append] at hgr h48 hbytes ⊢
   refine ⟨_,_,?_,hgr.1,.inr ⟨hgr.2,by simp[Value.ownBlock]⟩⟩
   have hf0:(Builtin.firstCells 1 0 (.slice none 0 0)).run P w.drew=.ok #[] w.drew:=hfo w.drew rfl
   have hm':¬ m≤0:=by omega
   have hmx:¬ (9223372036854775807:Int)<(m:Int):=by omega
   have h48':¬ Builtin.nextslicecap m 0*i.bytes > 2^48:=by simpa using h48
   simp[Builtin.append_,run_underlying ht,run_underlying hti,Go.sizeOf,typeInfo,zeroValue,hi,hz,hsz,asInt,asIntOf,hwrap,hm0,hm48,hm,hmx,h48',Question.forced,hf0,newRow,grownCap,hz1,hzc']
 ·by_cases hroom:n+m≤cap
  ·have hnl:(qCo m z).length=m:=qC3
   have hfit:n*1+(qCo m z).length≤cur.size:=by rw[hnl,hcs];omega
   have hst:=run_storeCells_at P g (n*1) e (qCo m z) 0 cur w hg (by simpa using hfit) (fun v hv=>by rw[(List.mem_replicate.1 hv).2];exact hzo)
   simp only[Nat.add_zero] at hst
   refine ⟨.slice (some ⟨g,0,none⟩) (n+m) cap,w.setRow g (cur.toList.take (n*1)++qCo m z++cur.toList.drop (n*1+(qCo m z).length)).toArray,?_,⟨hlen,.inr ⟨g,cap,_,rfl,hbg,setRow_heap w g cur _ e _ hg,hroom,hcm,?_,?_⟩⟩,.inl ⟨rfl,⟨rfl,rfl,rfl,by simp,fun k _ hk=>setRow_other w g k _ (fun e=>hk (by simp[Value.ownBlock,e])),fun _=>qCE _⟩⟩⟩
   ·have hap:=happ w
    by_cases hm:m=0
    ·subst hm
     simp only[List.replicate_zero] at hst hap ⊢
     simp[Builtin.append_,run_underlying ht,run_underlying hti,Go.sizeOf,typeInfo,zeroValue,hi,hz,hsz,asInt,asIntOf,show IntKind.i64.wrap 0=0 from by decide,hnc,Addr.add_lit]
     simp only[List.length_nil,Nat.add_zero,qC0,List.take_append_drop,qDn,Array.toArray_toList] at hst ⊢
     rw[hst];rfl
    ·simp[Builtin.append_,run_underlying ht,run_underlying hti,Go.sizeOf,typeInfo,zeroValue,hi,hz,hsz,asInt,asIntOf,hwrap,hm0,hm48,hm,hroom,Addr.add_lit,hz1,hzc']
     simp at hst
     rw[hst];rfl
   ·simp only[qDj,qCt,qCA,qCP,Array.length_toList]
    omega
   ·rw[htake,← hlen]
    exact qDJ
  ·have hgr:=grown cap (by omega)
   refine ⟨_,_,?_,hgr.1,.inr ⟨hgr.2,by simp[Value.ownBlock]⟩⟩
   have hf0:=hfo w.drew rfl
   have hm:¬ m=0:=by omega
   have h48':¬ Builtin.nextslicecap (n+m) cap*i.bytes > 2^48:=by simpa using qaP (by omega) hbytes
   simp[Builtin.append_,run_underlying ht,run_underlying hti,Go.sizeOf,typeInfo,zeroValue,hi,hz,hsz,asInt,asIntOf,hwrap,hm0,hm48,hm,hroom,hmx0,h48',Question.forced,hf0,newRow,grownCap,hz1,hzc']
def appz {α:Type}(lim:Nat)(xs:List α)(y:α)(n:Int):Option (List α):=if 0≤n∧xs.length+n.toNat≤lim then some (xs++qCo n.toNat y) else none
theorem qp3 {α:Type}{enc:α→List Value}{y:α}(h:enc y=[z])(k:Nat):(qCo k y).flatMap enc=qCo k z:=by
 induction k with
 | zero=>rfl
 | succ k ih=>rw[qDp,qCz,ih,h];rfl
theorem qxK {α:Type}{enc:α→List Value}{xs:List α}{y:α}{k:List α→Option ρ}{s:Operand}{v:Value}{kk:IntKind}{c:Int}{ti:Nat}(i:Nat)(_henc:EncOk enc 1)(hw:wants ops l ⟨some d,.call ⟨.builtin .append,#[s,x],#[t',ti]⟩,t,pos,af,gd⟩=some true)(ht:P.underlying t'=some (.slice e))(hti:P.underlying ti=some (.int ki))(hT:TyF P e false z 1 bytes)(hz:z.cells=#[z])(hzo:z.oneCell'=true)(hy:enc y=[z])(hd:Nat.blt d n=true)(hs:ev l s=some v)(hx:ev l x=some (.int kk c))(hR:R[i]?=some (Ro enc e 1 v xs))(hlim:Nat.ble lim 9223372036854775807=true)(hlb:Nat.ble (lim*bytes) 140737488355328=true)(h:∀ zs,appz lim xs y c=some zs→∀ a c',SXO P ro n D M0 w0 Q ops rest ((d,.slice a zs.length c')::l) B (Ro enc e 1 (.slice a zs.length c') zs::R.eraseIdx i) F (k zs) r) :
  SXO P ro n D M0 w0 Q ops (⟨some d,.call ⟨.builtin .append,#[s,x],#[t',ti]⟩,t,pos,af,gd⟩::rest) l B R F ((appz lim xs y c).bind k) r:=by
 refine k6 hw fun hm a w hf hp=>?_
 cases hq:appz lim xs y c with
 | none=>rw[hq] at hm;simp at hm
 | some zs =>
  rw[hq] at hm
  have hm':k zs=some r:=by simpa using hm
  have hq':=hq
  unfold appz at hq
  split at hq
  ·rename_i hle
   obtain ⟨hc0,hle⟩:=hle
   obtain ⟨m',rfl⟩:=qCp hc0
   simp only[qCy,qCs] at hq hle
   have h1:=hf.ev hs
   have h2:=hf.ev hx
   have hlim':=qDh hlim
   have hlb':=qDh hlb
   obtain ⟨v',w',hr,ho,hk⟩:=qqG (P:=P) (ty:=t) (kk:=kk) w ht hti hT hz hzo (hp.row _ (qCq hR)) m'
    (by show xs.length+m'≤maxLen;simp only[maxLen];omega) (by show (xs.length+m')*bytes≤_;exact qDf (qCR _ hle) hlb')
   have hown:(Ro enc e 1 v' zs).own w':=by
    have ho':w'.ownsRow 0 e 1 v' (xs.length+m') (xs.flatMap enc++qCo m' z):=ho
    show w'.ownsRow 0 e 1 v' zs.length (zs.flatMap enc)
    rw[← hq,qCt,qC3,qCQ,qp3 hy]
    exact ho'
   have hsw:=hp.swapRow hR hown hk
   obtain ⟨ao,c',hv⟩:=hsw.rowForm (show (Ro enc e 1 v' zs::R.eraseIdx i)[0]?=some (Ro enc e 1 v' zs) from rfl)
   subst hv
   refine ⟨_,w',?_,h _ hq' ao c' hm' _ _ (hf.put hd _) hsw⟩
   generalize a.eval=ε at h1 h2 ⊢
   simp only[Ro] at hr
   simp[execOp,resolve,invoke,builtin,h1,h2,hr]
  ·simp at hq
theorem qsm {α:Type}{enc:α→List Value}{xs:List α}{g i:Nat}{v:Value}{y:α}(henc:EncOk enc esz)(hw:wants ops l ⟨some d,.load t' x,t,pos,af,gd⟩=some true)(hx:ev l x=some (.pointer (some ⟨g,i*esz+off,none⟩)))(hT:TyF P t' agg z size bytes)(hR:R[j]?=some (Ro enc e esz v xs))(hg:v.ownBlock=some g)(hy:xs[i]?=some y)(hl:(((enc y).drop off).take size).length=size)(hs:agg=false→size=1)(hV:(if agg then .agg (((enc y).drop off).take size).toArray else (((enc y).drop off).take size).getD 0 undef)=V)(hd:Nat.blt d n=true)(h:SXO P ro n D M0 w0 Q ops rest ((d,V)::l) B R F m r):SXO P ro n D M0 w0 Q ops (⟨some d,.load t' x,t,pos,af,gd⟩::rest) l B R F m r :=
 qP V hw rfl hd (fun a w hf hp=>by
  have h1:=hf.ev hx
  have hc:yG g (i*esz) (enc y) w:=ql1 henc (hp.row _ (qCq hR)) hg hy
  have hr:=qat hT hc.part hl hV.symm hs
  generalize a.eval=ε at h1 ⊢
  simp[execOp,h1,Instr.loadAt,Instr.sureAddr,hr]) h
def outs {β:Type}(hs:List Nat):Nat→List β→List β
 | _,[]=>[]
 | k,x::t=>if k∈hs then outs hs (k+1) t else x::outs hs (k+1) t
theorem qbi {β:Type}:∀ (k:Nat) (l:List β),outs [] k l=l
 | _,[]=>rfl
 | k,x::t=>by
  show (if k∈[] then outs [] (k+1) t else x::outs [] (k+1) t)=_
  rw[if_neg (by simp),qbi (k+1) t]
theorem qnm {β:Type}{hs:List Nat}{j:Nat}:∀ (k:Nat) (l:List β),j<k→outs (j::hs) k l=outs hs k l
 | _,[],_=>rfl
 | k,x::t,h=>by
  show (if k∈j::hs then outs (j::hs) (k+1) t else x::outs (j::hs) (k+1) t)=if k∈hs then outs hs (k+1) t else x::outs hs (k+1) t
  rw[qnm (k+1) t (by omega)]
  have:k∈j::hs↔k∈hs:=by
   constructor
   ·intro h1
    rcases qCu.1 h1 with h1 | h1
    ·omega
    ·exact h1
   ·exact qCD _
  simp only[this]
theorem qkj {β:Type}{hs:List Nat}{p:β}:∀ (k j:Nat) (l:List β),l[j]?=some p→k+j∉hs→(outs hs k l).Perm (p::outs ((k+j)::hs) k l)
 | _,_,[],h,_=>by simp at h
 | k,0,x::t,h,hn=>by
  simp only[List.getElem?_cons_zero,qCy] at h
  subst h
  show (if k∈hs then outs hs (k+1) t else x::outs hs (k+1) t).Perm (x::if k∈(k+0)::hs then outs ((k+0)::hs) (k+1) t else x::outs ((k+0)::hs) (k+1) t)
  rw[if_neg (by simpa using hn),if_pos (by simp),qnm (k+1) t (by omega)]
 | k,j+1,x::t,h,hn=>by
  have h':t[j]?=some p:=by simpa using h
  have hn':k+1+j∉hs:=by rwa [show k+1+j=k+(j+1) from by omega]
  have ih:=qkj (hs:=hs) (k+1) j t h' hn'
  rw[show k+1+j=k+(j+1) from by omega] at ih
  show (if k∈hs then outs hs (k+1) t else x::outs hs (k+1) t).Perm (p::if k∈(k+(j+1))::hs then outs ((k+(j+1))::hs) (k+1) t else x::outs ((k+(j+1))::hs) (k+1) t)
  by_cases hk:k∈hs
  ·rw[if_pos hk,if_pos (qCD _ hk)];exact ih
  ·rw[if_neg hk,if_neg (by simp only[qCu,not_or];exact ⟨by omega,hk⟩)]
   exact (ih.cons x).trans (qFc ..)
theorem qlT {β:Type}{hs:List Nat}{p:β}:∀ (k j:Nat) (l:List β),k+j∈hs→outs hs k (l.set j p)=outs hs k l
 | _,_,[],_=>by simp
 | k,0,x::t,h=>by
  have h':k∈hs:=h
  show (if k∈hs then outs hs (k+1) t else p::outs hs (k+1) t)=if k∈hs then outs hs (k+1) t else x::outs hs (k+1) t
  rw[if_pos h',if_pos h']
 | k,j+1,x::t,h=>by
  show (if k∈hs then outs hs (k+1) (t.set j p) else x::outs hs (k+1) (t.set j p))=if k∈hs then outs hs (k+1) t else x::outs hs (k+1) t
  rw[qlT (k+1) j t (by rwa [show k+1+j=k+(j+1) from by omega])]
theorem qlS {β:Type}{hs hs':List Nat}(h:∀ x,x∈hs↔x∈hs'):∀ (k:Nat) (l:List β),outs hs k l=outs hs' k l
 | _,[]=>rfl
 | k,x::t=>by
  show (if k∈hs then outs hs (k+1) t else x::outs hs (k+1) t)=if k∈hs' then outs hs' (k+1) t else x::outs hs' (k+1) t
  rw[qlS h (k+1) t]
  simp only[h]
theorem qrz {hs:List Nat}(hk:hs[k]?=some j)(hn:hs.Nodup):j∉hs.eraseIdx k∧(hs.eraseIdx k).Nodup∧∀ x,x∈j::hs.eraseIdx k↔x∈hs:=by
 obtain ⟨A,C,rfl,he⟩:=qeQ hk
 rw[he]
 have hp:(A++j::C).Perm (j::(A++C)):=qDi
 have:=hp.nodup_iff.1 hn
 obtain ⟨h1,h2⟩:=qDw.1 this
 exact ⟨h1,h2,fun x=>hp.symm.mem_iff⟩
def RowF.row (f:RowF):RowD:=⟨f.v,f.e,f.size,f.n,f.cs⟩
def RowF.cells (f:RowF):World→Prop:=Cells f.v f.n f.size f.cs
def FoR {α:Type}(enc:α→List Value)(e:TypeId)(size:Nat)(v:Value)(xs:List α):RowF:=⟨v,e,size,xs.length,xs.flatMap enc⟩
def guardF (b:Bool):RowF:=⟨.slice none 0 0,0,1,0,if b then [] else [.bool true]⟩
theorem qc4 {b:Bool}:(guardF b).own w↔b=true:=by
 cases b
 ·simp[guardF,RowF.own,World.ownsRow]
 ·simp[guardF,RowF.own,World.ownsRow]
def RoN {α γ:Type}(enc:α×γ→List Value)(rin:α×γ→List RowF)(e:TypeId)(size:Nat)(v:Value)(xs:List α)(gs:List γ)(hs:List Nat):RowD :=
 @RowD.mk v e size xs.length ((xs.zip gs).flatMap enc) ⟨guardF (decide (gs.length=xs.length∧hs.Nodup))::(outs hs 0 (xs.zip gs)).flatMap rin⟩
def InR {β:Type}(rin:β→List RowF)(ps:List β)(hs:List Nat):RowD:=@RowD.mk (.slice none 0 0) 0 1 0 [] ⟨(outs hs 0 ps).flatMap rin⟩
theorem Hp.rowsP (h:Hp M0 w0 w B R F)(hr:∀ r∈R',r.owns w)(hp:(R.flatMap RowD.blocks).Perm (R'.flatMap RowD.blocks)):Hp M0 w0 w B R' F :=
 h.permM h.blk hr (hp.append_left _)
theorem qeN {i:Nat}{r:RowD}(hi:R[i]?=some r):R.Perm (r::R.eraseIdx i):=by
 obtain ⟨A,C,rfl,he⟩:=qeQ hi
 rw[he]
 exact qDi
theorem Hp.front {i:Nat}{r:RowD}(h:Hp M0 w0 w B R F)(hi:R[i]?=some r):Hp M0 w0 w B (r::R.eraseIdx i) F:=h.perm (qCU _) (qeN hi)
theorem qh2 (L:List RowF):(L.map RowF.row).flatMap RowD.blocks=L.filterMap (·.v.ownBlock):=by
 induction L with
 | nil=>rfl
 | cons f L ih =>
  rw[qC5,qCz,ih,RowD.blocks_one (r:=f.row) rfl,List.filterMap_cons]
  show f.v.ownBlock.toList++_=_
  cases f.v.ownBlock <;> rfl
variable {α γ:Type}{enc:α×γ→List Value}{rin:α×γ→List RowF}{i:Nat}{v:Value}{xs:List α}{gs:List γ}{hs:List Nat}
theorem Hp.nestOk (h:Hp M0 w0 w B R F)(hR:R[i]?=some (RoN enc rin e size v xs gs hs)):gs.length=xs.length∧hs.Nodup:=by
 have:=(h.rows _ (qCq hR)).2 (guardF (decide (gs.length=xs.length∧hs.Nodup))) (qCC ..)
 simpa using qc4.1 this
theorem vH:(RoN enc rin e size v xs gs hs).blocks=v.ownBlock.toList++((outs hs 0 (xs.zip gs)).flatMap rin).filterMap (·.v.ownBlock):=rfl
theorem qig {enc:β→List Value}{ps:List β}:(Ro enc e size v ps).blocks=v.ownBlock.toList:=RowD.blocks_one rfl
theorem qfT {rin:β→List RowF}{ps:List β}:(InR rin ps hs).blocks=((outs hs 0 ps).flatMap rin).filterMap (·.v.ownBlock):=rfl
theorem qyl (ps:List (α×γ)):(ps.map (·.1)).zip (ps.map (·.2))=ps:=by
 induction ps with
 | nil=>rfl
 | cons p ps ih=>rw[qC5,qC5,qEt,ih]
theorem Hp.unN (h:Hp M0 w0 w B R F)(hR:R[i]?=some (RoN enc rin e size v xs gs hs)) :
  Hp M0 w0 w B (Ro enc e size v (xs.zip gs)::InR rin (xs.zip gs) hs::R.eraseIdx i) F:=by
 obtain ⟨hl,hn⟩:=h.nestOk hR
 have h1:=h.front hR
 have h2:=h1.rows _ (qCC ..)
 refine h1.rowsP (fun r hr=>?_) ?_
 ·rcases qCu.1 hr with rfl | hr
  ·refine RowD.owns_one ?_ rfl
   have h3:w.ownsRow 0 e size v xs.length ((xs.zip gs).flatMap enc):=h2.1
   show w.ownsRow 0 e size v (xs.zip gs).length ((xs.zip gs).flatMap enc)
   rw[yj hl];exact h3
  ·rcases qCu.1 hr with rfl | hr
   ·exact ⟨⟨rfl,.inl ⟨rfl,rfl⟩⟩,fun f hf=>h2.2 f (qCD _ hf)⟩
   ·exact h1.rows r (qCD _ hr)
 ·rw[qCz,qCz,qCz,← qCv,qig,qfT,vH]
theorem Hp.reN {ps:List (α×γ)}(h:Hp M0 w0 w B (Ro enc e size v ps::InR rin ps hs::R) F)(hn:hs.Nodup):Hp M0 w0 w B (RoN enc rin e size v (ps.map (·.1)) (ps.map (·.2)) hs::R) F:=by
 have hz:=qyl ps
 have h1:=h.rows _ (qCC ..)
 have h2:=h.rows (InR rin ps hs) (by simp)
 refine h.rowsP (fun r hr=>?_) ?_
 ·rcases qCu.1 hr with rfl | hr
  ·refine ⟨?_,fun f hf=>?_⟩
   ·have h3:w.ownsRow 0 e size v ps.length (ps.flatMap enc):=h1.1
    show w.ownsRow 0 e size v (ps.map (·.1)).length (((ps.map (·.1)).zip (ps.map (·.2))).flatMap enc)
    rw[hz,qCX];exact h3
   ·rcases qCu.1 hf with rfl | hf
    ·exact qc4.2 (by simp[hn])
    ·rw[hz] at hf
     exact h2.2 f hf
  ·exact h.rows r (by simp[hr])
 ·rw[qCz,qCz,qCz,vH,hz,← qCv,qig,qfT]
theorem Hp.openN {p:α×γ}(h:Hp M0 w0 w B R F)(hR:R[i]?=some (RoN enc rin e size v xs gs hs))(hj:(xs.zip gs)[j]?=some p)(hn:j∉hs) :
  Hp M0 w0 w B ((rin p).map RowF.row++RoN enc rin e size v xs gs (j::hs)::R.eraseIdx i) F:=by
 obtain ⟨hl,hnd⟩:=h.nestOk hR
 have h1:=h.front hR
 have h2:=h1.rows _ (qCC ..)
 have ho:=qkj (hs:=hs) 0 j (xs.zip gs) hj (by rwa [qDg])
 rw[qDg] at ho
 have hof:=ho.flatMap_right rin
 rw[qCz] at hof
 have hin:∀ f∈(outs hs 0 (xs.zip gs)).flatMap rin,f.own w:=fun f hf=>h2.2 f (qCD _ hf)
 refine h1.rowsP (fun r hr=>?_) ?_
 ·rcases qCr.1 hr with hr | hr
  ·obtain ⟨f,hf,rfl⟩:=qCV.1 hr
   exact RowD.owns_one (hin f (hof.mem_iff.2 (qCr.2 (.inl hf)))) rfl
  ·rcases qCu.1 hr with rfl | hr
   ·refine ⟨h2.1,fun f hf=>?_⟩
    rcases qCu.1 hf with rfl | hf
    ·exact qc4.2 (by simp[hl,hnd,hn])
    ·exact hin f (hof.mem_iff.2 (qCr.2 (.inr hf)))
   ·exact h1.rows r (qCD _ hr)
 ·rw[qCQ,qCz,qCz,qh2,vH,vH]
  have h3:=hof.filterMap (·.v.ownBlock)
  rw[qEG] at h3
  refine ((h3.append_left v.ownBlock.toList).append_right _).trans ?_
  rw[← qCv,← qCv,← qCv]
  exact (List.perm_append_comm.append_right _).append_right _
theorem Hp.closeN {p:α×γ}(h:Hp M0 w0 w B R F)(hT:Takes R ((rin p).map RowF.row) R')(hR:R'[i]?=some (RoN enc rin e size v xs gs hs))(hk:hs[k]?=some j)(hj:(xs.zip gs)[j]?=some p) :
  Hp M0 w0 w B (RoN enc rin e size v xs gs (hs.eraseIdx k)::R'.eraseIdx i) F:=by
 have h0:=h.perm (qCU _) hT.perm
 have hp:((rin p).map RowF.row++R').Perm ((rin p).map RowF.row++RoN enc rin e size v xs gs hs::R'.eraseIdx i):=(qeN hR).append_left _
 have h1:=h0.perm (qCU _) hp
 have hN:=h1.nestOk (i:=((rin p).map RowF.row).length) (by rw[List.getElem?_append_right (qCE _),Nat.sub_self];rfl)
 obtain ⟨hl,hnd⟩:=hN
 obtain ⟨b1,b2,b3⟩:=qrz hk hnd
 have ho:=qkj (hs:=hs.eraseIdx k) 0 j (xs.zip gs) hj (by rwa [qDg])
 rw[qDg,qlS b3] at ho
 have hof:=ho.flatMap_right rin
 rw[qCz] at hof
 have h2:=h1.rows (RoN enc rin e size v xs gs hs) (by simp)
 refine h1.rowsP (fun r hr=>?_) ?_
 ·rcases qCu.1 hr with rfl | hr
  ·refine ⟨h2.1,fun f hf=>?_⟩
   rcases qCu.1 hf with rfl | hf
   ·exact qc4.2 (by simp[hl,b2])
   ·rcases qCr.1 (hof.mem_iff.1 hf) with hf | hf
    ·exact (h1.rows f.row (qCr.2 (.inl (qCV.2 ⟨f,hf,rfl⟩)))).1
    ·exact h2.2 f (qCD _ hf)
  ·exact h1.rows r (by simp[hr])
 ·rw[qCQ,qCz,qCz,qh2,vH,vH]
  have h3:=hof.filterMap (·.v.ownBlock)
  rw[qEG] at h3
  refine List.Perm.trans ?_ ((h3.append_left v.ownBlock.toList).append_right _).symm
  rw[← qCv,← qCv,← qCv]
  exact (List.perm_append_comm.append_right _).append_right _
theorem qj1 {y:α}{q:γ}:∀ (xs:List α) (gs:List γ) (j:Nat),(xs.set j y).zip (gs.set j q)=(xs.zip gs).set j (y,q)
 | [],gs,j=>by simp
 | x::xs,[],j=>by simp
 | x::xs,g::gs,0=>by simp
 | x::xs,g::gs,j+1=>by
  rw[qEd,qEd,qEt,qEt,qEd,qj1 xs gs j]
theorem qjv {β:Type}{enc:β→List Value}{p p':β}(he:enc p'=enc p):∀ (ps:List β) (j:Nat),ps[j]?=some p→(ps.set j p').flatMap enc=ps.flatMap enc
 | [],j,h=>by simp at h
 | x::ps,0,h=>by
  simp only[List.getElem?_cons_zero,qCy] at h
  subst h
  rw[List.set_cons_zero,qCz,qCz,he]
 | x::ps,j+1,h=>by
  rw[qEd,qCz,qCz,qjv he ps j (by simpa using h)]
theorem qyM {ps:List β}{p p':β}(h:ps[j]?=some p):(ps.set j p')[j]?=some p':=by
 rw[List.getElem?_set_self]
 exact (qCx.1 h).1
theorem Hp.turnN {p:α×γ}{y:α}{q:γ}(h:Hp M0 w0 w B R F)(hR:R[i]?=some (RoN enc rin e size v xs gs hs))(hk:j∈hs)(hj:(xs.zip gs)[j]?=some p)(he:enc (y,q)=enc p) :
  Hp M0 w0 w B (RoN enc rin e size v (xs.set j y) (gs.set j q) hs::R.eraseIdx i) F:=by
 obtain ⟨hl,hnd⟩:=h.nestOk hR
 have h1:=h.front hR
 have h2:=h1.rows _ (qCC ..)
 have hz:=qj1 (y:=y) (q:=q) xs gs j
 have ho:outs hs 0 ((xs.set j y).zip (gs.set j q))=outs hs 0 (xs.zip gs):=by rw[hz];exact qlT 0 j _ (by rwa [qDg])
 refine h1.rowsP (fun r hr=>?_) ?_
 ·rcases qCu.1 hr with rfl | hr
  ·refine ⟨?_,fun f hf=>?_⟩
   ·have h3:w.ownsRow 0 e size v xs.length ((xs.zip gs).flatMap enc):=h2.1
    show w.ownsRow 0 e size v (xs.set j y).length (((xs.set j y).zip (gs.set j q)).flatMap enc)
    rw[qCJ,hz,qjv he _ _ hj];exact h3
   ·rcases qCu.1 hf with rfl | hf
    ·exact qc4.2 (by simp[hl,hnd])
    ·rw[ho] at hf
     exact h2.2 f (qCD _ hf)
  ·exact h1.rows r (qCD _ hr)
 ·rw[qCz,qCz,vH,vH,ho]
theorem Hp.nestOf (h:Hp M0 w0 w B R F)(hR:R[i]?=some (Ro enc e size v (xs.zip gs)))(hl:gs.length=xs.length)(hT:Takes (R.eraseIdx i) (((xs.zip gs).flatMap rin).map RowF.row) R') :
  Hp M0 w0 w B (RoN enc rin e size v xs gs []::R') F:=by
 have h1:=h.perm (qCU _) ((qeN hR).trans (hT.perm.cons _))
 have h2:=h1.rows _ (qCC ..)
 refine h1.rowsP (fun r hr=>?_) ?_
 ·rcases qCu.1 hr with rfl | hr
  ·refine ⟨?_,fun f hf=>?_⟩
   ·have h3:w.ownsRow 0 e size v (xs.zip gs).length ((xs.zip gs).flatMap enc):=h2.1
    show w.ownsRow 0 e size v xs.length ((xs.zip gs).flatMap enc)
    rw[yj hl] at h3;exact h3
   ·rcases qCu.1 hf with rfl | hf
    ·exact qc4.2 (by simp[hl])
    ·rw[qbi] at hf
     exact (h1.rows f.row (by simp only[qCu,qCr,qCV];exact .inr (.inl ⟨f,hf,rfl⟩))).1
  ·exact h1.rows r (by simp[hr])
 ·rw[qCz,qCQ,qCz,qh2,vH,qbi,qig,qCv]
theorem Hp.nestNil (h:Hp M0 w0 w B R F)(hR:R[i]?=some (Ro enc e size v (xs.zip gs)))(hl:gs.length=xs.length)(hz:∀ p∈xs.zip gs,∀ f∈rin p,f.v=.slice none 0 0∧f.n=0∧f.cs=[]) :
  Hp M0 w0 w B (RoN enc rin e size v xs gs []::R.eraseIdx i) F:=by
 have h1:=h.front hR
 have h2:=h1.rows _ (qCC ..)
 have hz':∀ f∈(xs.zip gs).flatMap rin,f.v=.slice none 0 0∧f.n=0∧f.cs=[]:=fun f hf=>by
  obtain ⟨p,hp,hf⟩:=qDq.1 hf
  exact hz p hp f hf
 refine h1.rowsP (fun r hr=>?_) ?_
 ·rcases qCu.1 hr with rfl | hr
  ·refine ⟨?_,fun f hf=>?_⟩
   ·have h3:w.ownsRow 0 e size v (xs.zip gs).length ((xs.zip gs).flatMap enc):=h2.1
    show w.ownsRow 0 e size v xs.length ((xs.zip gs).flatMap enc)
    rw[yj hl] at h3;exact h3
   ·rcases qCu.1 hf with rfl | hf
    ·exact qc4.2 (by simp[hl])
    ·rw[qbi] at hf
     obtain ⟨e1,e2,e3⟩:=hz' f hf
     exact ⟨by rw[e2,e3];simp,.inl ⟨e1,e2⟩⟩
  ·exact h1.rows r (qCD _ hr)
 ·rw[qCz,qCz,vH,qbi,qig]
  have:((xs.zip gs).flatMap rin).filterMap (·.v.ownBlock)=[]:=by
   rw[List.filterMap_eq_nil_iff]
   intro f hf
   rw[(hz' f hf).1];rfl
  rw[this,qC0]
theorem kp {inn:α×γ→List (World→Prop)}(hri:∀ p,inn p=(rin p).map RowF.cells):∀ w,(RoN enc rin e size v xs gs []).owns w→SlN enc inn size v xs gs w:=by
 intro w h
 have hl:gs.length=xs.length:=by
  have:=h.2 (guardF (decide (gs.length=xs.length∧([]:List Nat).Nodup))) (qCC ..)
  have h2:=qc4.1 this
  simp only[decide_eq_true_eq] at h2
  exact h2.1
 refine ⟨hl,?_,fun p hp φ hφ=>?_⟩
 ·have h4:w.ownsRow 0 e size v xs.length ((xs.zip gs).flatMap enc):=h.1
  show Cells v (xs.zip gs).length size ((xs.zip gs).flatMap enc) w
  rw[yj hl];exact zr h4
 ·rw[hri] at hφ
  obtain ⟨f,hf,rfl⟩:=qCV.1 hφ
  have hfm:f∈(outs [] 0 (xs.zip gs)).flatMap rin:=by rw[qbi];exact qDq.2 ⟨p,hp,hf⟩
  exact zr (h.2 f (qCD _ hfm))
theorem qym {i:Int}{y:α}(hl:gs.length=xs.length)(h:idx xs i=some y):∃ q,(xs.zip gs)[i.toNat]?=some (y,q):=by
 obtain ⟨_,_,h3⟩:=qu h
 have h1:=(qCx.1 h3).1
 exact ⟨gs[i.toNat]'(by omega),qEp.2 ⟨h3,qCn (by omega)⟩⟩
theorem qxR {k:α→Option ρ}{i:Int}(hw:wants ops l ⟨some d,.indexAddr t' x ix,t,pos,af,gd⟩=some true)(ht:P.underlying t'=some (.slice e))(hT:TyF P e agg z size bytes)(hx:ev l x=some (.slice ao xs.length c))(hi:ev l ix=some (.int ki i))(hR:R[j]?=some (RoN enc rin e size (.slice ao xs.length c) xs gs hs))(hd:Nat.blt d n=true)(h:∀ y,idx xs i=some y→∀ q,(xs.zip gs)[i.toNat]?=some (y,q)→∀ g,(Value.slice ao xs.length c).ownBlock=some g→SXO P ro n D M0 w0 Q ops rest ((d,.pointer (some ⟨g,i.toNat*size,none⟩))::l) B R F (k y) r) :
  SXO P ro n D M0 w0 Q ops (⟨some d,.indexAddr t' x ix,t,pos,af,gd⟩::rest) l B R F ((idx xs i).bind k) r:=by
 intro hm a w hf hp
 obtain ⟨hl,_⟩:=hp.nestOk hR
 have hu:=hp.unN hR
 have hm2:=hm
 rw[← qox hl] at hm2
 have hx':ev l x=some (.slice ao (xs.zip gs).length c):=by rw[yj hl];exact hx
 refine qcX (R:=Ro enc e size (.slice ao (xs.zip gs).length c) (xs.zip gs)::InR rin (xs.zip gs) hs::R.eraseIdx j) (j:=0) (k:=fun p=>k p.1) hw ht hT hx' hi rfl hd (fun p hq g hg=>?_) hm2 a w hf (by rw[yj hl];exact hu)
 intro hm' a' w' hf' hp'
 have hback:Hp M0 w0 w' B R F:=by
  rw[yj hl] at hp'
  have h1:=hp'.reN (hp.nestOk hR).2
  rw[show (xs.zip gs).map (·.1)=xs from qD8 (by omega),show (xs.zip gs).map (·.2)=gs from qEA (by omega)] at h1
  exact h1.perm (qCU _) (qeN hR).symm
 obtain ⟨_,_,h3⟩:=qu hq
 rw[yj hl] at hg
 exact h p.1 (qhh hq) p.2 h3 g hg hm' a' w' hf' hback
theorem qqR {x:Code}{k:α→Option ρ}{i:Int}(hR:R[j]?=some (RoN enc rin e size (.slice ao xs.length c) xs gs hs))(h:∀ y,idx xs i=some y→∀ q,(xs.zip gs)[i.toNat]?=some (y,q)→∀ g,ao=some ⟨g,0,none⟩→SXC P ro n D M0 w0 Q x l B R F (k y) r) :
  SXC P ro n D M0 w0 Q x l B R F ((idx xs i).bind k) r:=by
 intro hm a w hf hp
 obtain ⟨hl,_⟩:=hp.nestOk hR
 cases hq:idx xs i with
 | none=>rw[hq] at hm;simp at hm
 | some y =>
  rw[hq] at hm
  have hm':k y=some r:=by simpa using hm
  obtain ⟨q,hz⟩:=qym hl hq
  obtain ⟨_,hlt,_⟩:=qu hq
  have hown:=hp.row _ (qCq hR)
  rcases hown.2 with ⟨h5,h6⟩ | ⟨g,cap,cur,h5,_⟩
  ·have h6':xs.length=0:=h6
   omega
  ·have h5':Value.slice ao xs.length c=.slice (some ⟨g,0,none⟩) xs.length cap:=h5
   simp only[Value.slice.injEq] at h5'
   exact h y hq q hz g h5'.1 hm' a w hf hp
theorem qkB {p:α×γ}(hR:R[i]?=some (RoN enc rin e size v xs gs hs))(hj:(xs.zip gs)[j]?=some p)(hn:j∉hs)(h:SXO P ro n D M0 w0 Q ops rest l B ((rin p).map RowF.row++RoN enc rin e size v xs gs (j::hs)::R.eraseIdx i) F m r):SXO P ro n D M0 w0 Q ops rest l B R F m r :=
 fun hm a w hf hp=>h hm a w hf (hp.openN hR hj hn)
theorem qfs {x:Code}{p:α×γ}(hR:R[i]?=some (RoN enc rin e size v xs gs hs))(hj:(xs.zip gs)[j]?=some p)(hn:j∉hs)(h:SXC P ro n D M0 w0 Q x l B ((rin p).map RowF.row++RoN enc rin e size v xs gs (j::hs)::R.eraseIdx i) F m r):SXC P ro n D M0 w0 Q x l B R F m r :=
 fun hm a w hf hp=>h hm a w hf (hp.openN hR hj hn)
theorem qi3 {x:Code}{p:α×γ}(hT:Takes R ((rin p).map RowF.row) R')(hR:R'[i]?=some (RoN enc rin e size v xs gs hs))(hk:hs[k]?=some j)(hj:(xs.zip gs)[j]?=some p)(h:SXC P ro n D M0 w0 Q x l B (RoN enc rin e size v xs gs (hs.eraseIdx k)::R'.eraseIdx i) F m r):SXC P ro n D M0 w0 Q x l B R F m r :=
 fun hm a w hf hp=>h hm a w hf (hp.closeN hT hR hk hj)
theorem Hp.closeT {p:α×γ}{y:α}{q:γ}(hp:Hp M0 w0 w B R F)(hT:Takes R ((rin (y,q)).map RowF.row) R')(hR:R'[i]?=some (RoN enc rin e size v xs gs hs))(hk:hs[k]?=some j)(hj:(xs.zip gs)[j]?=some p)(he:enc (y,q)=enc p) :
  Hp M0 w0 w B (RoN enc rin e size v (xs.set j y) (gs.set j q) (hs.eraseIdx k)::R'.eraseIdx i) F:=by
 have h0:=hp.perm (qCU _) hT.perm
 have hp2:((rin (y,q)).map RowF.row++R').Perm (RoN enc rin e size v xs gs hs::((rin (y,q)).map RowF.row++R'.eraseIdx i)) :=
  ((qeN hR).append_left _).trans qDi
 have h1:=h0.perm (qCU _) hp2
 have h2:=h1.turnN (i:=0) rfl (qCq hk) hj he
 have h3:=h2.perm (qCU _) (qDi (l₁:=(rin (y,q)).map RowF.row) (a:=RoN enc rin e size v (xs.set j y) (gs.set j q) hs) (l₂:=R'.eraseIdx i)).symm
 have hz:((xs.set j y).zip (gs.set j q))[j]?=some (y,q):=by rw[qj1];exact qyM hj
 have hTk:∀ (A C:List RowD),Takes (A++C) A C:=by
  intro A
  induction A with
  | nil=>intro C;exact .nil
  | cons a A ih=>intro C;exact .cons 0 rfl (ih C)
 exact h3.closeN (i:=0) (hTk _ _) rfl hk hz
theorem qsd {x:Code}{kh:Nat}{p:α×γ}{y:α}{q:γ}{k:List α→Option ρ}(hT:Takes R ((rin (y,q)).map RowF.row) R')(hR:R'[i]?=some (RoN enc rin e size (.slice ao xs.length c) xs gs hs))(hk:hs[kh]?=some j)(hj:(xs.zip gs)[j]?=some p)(he:enc (y,q)=enc p)(h:∀ ys,xs.set j y=ys→Value.slice ao xs.length c=.slice ao ys.length c→∀ ks:List γ,SXC P ro n D M0 w0 Q x l B (RoN enc rin e size (.slice ao ys.length c) ys ks (hs.eraseIdx kh)::R'.eraseIdx i) F (k ys) r):SXC P ro n D M0 w0 Q x l B R F (lett (xs.set j y) k) r:=by
 intro hm a w hf hp
 have h1:=h _ rfl (by rw[qCJ]) (gs.set j q)
 refine h1 hm a w hf ?_
 rw[qCJ]
 exact hp.closeT hT hR hk hj he
theorem qxF {x:Code}{u:Value}(hu:look l d=some u)(he:u=v)(h:SXC P ro n D M0 w0 Q x ((d,v)::l) B R F m r):SXC P ro n D M0 w0 Q x l B R F m r :=
 fun hm a w hf hp=>h hm a w (hf.again hu he) hp
theorem qoZ {x:Code}{g e:Nat}{cs cs':List Value}(hB:B[i]?=some ⟨g,e,cs⟩)(he:cs=cs')(h:SXC P ro n D M0 w0 Q x l (B.set i ⟨g,e,cs'⟩) R F m r):SXC P ro n D M0 w0 Q x l B R F m r:=by
 subst he
 have:B.set i ⟨g,e,cs⟩=B:=by
  apply qDb
  intro j
  rw[qDB]
  split
  ·rename_i hij;subst hij;split
   ·exact hB.symm
   ·rename_i h2;simp at h2;simp[h2]
  ·rfl
 rw[this] at h
 exact h
theorem qvc {g:Nat}{p:α×γ}(henc:EncOk enc esz)(hw:wants ops l ⟨some d,.load t' x,t,pos,af,gd⟩=some true)(hx:ev l x=some (.pointer (some ⟨g,i*esz+off,none⟩)))(hT:TyF P t' agg z size bytes)(hR:R[j]?=some (RoN enc rin e esz v xs gs hs))(hg:v.ownBlock=some g)(hy:(xs.zip gs)[i]?=some p)(hl:(((enc p).drop off).take size).length=size)(hs:agg=false→size=1)(hV:(if agg then .agg (((enc p).drop off).take size).toArray else (((enc p).drop off).take size).getD 0 undef)=V)(hd:Nat.blt d n=true)(h:SXO P ro n D M0 w0 Q ops rest ((d,V)::l) B R F m r):SXO P ro n D M0 w0 Q ops (⟨some d,.load t' x,t,pos,af,gd⟩::rest) l B R F m r :=
 qP V hw rfl hd (fun a w hf hp=>by
  have h1:=hf.ev hx
  have hu:=hp.unN hR
  have hc:yG g (i*esz) (enc p) w:=ql1 henc (hu.row _ (qCC ..)) hg hy
  have hr:=qat hT hc.part hl hV.symm hs
  generalize a.eval=ε at h1 ⊢
  simp[execOp,h1,Instr.loadAt,Instr.sureAddr,hr]) h
theorem qi6 {g:Nat}{p:α×γ}(henc:EncOk enc esz)(hw:wants ops l ⟨some d,.load t' x,t,pos,af,gd⟩=some true)(hx:ev l x=some (.pointer (some ⟨g,i*esz,none⟩)))(hT:TyF P t' agg z size bytes)(hR:R[j]?=some (RoN enc rin e esz v xs gs hs))(hg:v.ownBlock=some g)(hy:(xs.zip gs)[i]?=some p)(hl:(enc p).length=size)(hs:agg=false→size=1)(hV:(if agg then .agg (enc p).toArray else (enc p).getD 0 undef)=V)(hd:Nat.blt d n=true)(h:SXO P ro n D M0 w0 Q ops rest ((d,V)::l) B R F m r):SXO P ro n D M0 w0 Q ops (⟨some d,.load t' x,t,pos,af,gd⟩::rest) l B R F m r:=by
 have e1:((enc p).drop 0).take size=enc p:=by rw[qCY,qCZ (by omega)]
 exact qvc (off:=0) henc hw hx hT hR hg hy (by rw[e1];exact hl) hs (by rw[e1];exact hV) hd h
theorem qsq {y:Operand}{g:Nat}{y':α}{q':γ}{k:List α→Option ρ}(henc:EncOk enc size)(hw:wants ops l ⟨none,.store t' x y,t,pos,af,gd⟩=some true)(hx:ev l x=some (.pointer (some ⟨g,i*size,none⟩)))(hy:ev l y=some V)(hT:TyF P t' agg z size bytes)(hR:R[j]?=some (RoN enc rin e size (.slice ao xs.length c) xs gs hs))(hg:(Value.slice ao xs.length c).ownBlock=some g)(hh:i∈hs)(hi:i<xs.length)(hV:V.cells.toList=enc (y',q'))(h:∀ ys,xs.set i y'=ys→Value.slice ao xs.length c=.slice ao ys.length c→SXO P ro n D M0 w0 Q ops rest l B (RoN enc rin e size (.slice ao ys.length c) ys (gs.set i q') hs::R.eraseIdx j) F (k ys) r) :
  SXO P ro n D M0 w0 Q ops (⟨none,.store t' x y,t,pos,af,gd⟩::rest) l B R F (lett (xs.set i y') k) r:=by
 intro hm a w hf hp
 obtain ⟨hl,hnd⟩:=hp.nestOk hR
 have hu:=hp.unN hR
 have hsl:(xs.set i y').length=xs.length:=qCJ
 refine qmk (R:=Ro enc e size (.slice ao xs.length c) (xs.zip gs)::InR rin (xs.zip gs) hs::R.eraseIdx j) (j:=0) (m:=lett (xs.set i y') k) henc hw hx hy hT rfl hg (by rw[yj hl];exact hi) hV ?_ hm a w hf hu
 intro hm' a' w' hf' hp'
 have h1:=h _ rfl (by rw[hsl])
 refine h1 hm' a' w' hf' ?_
 have e1:InR rin (xs.zip gs) hs=InR rin ((xs.zip gs).set i (y',q')) hs:=by
  unfold InR
  rw[qlT 0 i _ (by rwa [qDg])]
 have hp2:Hp M0 w0 w' B (Ro enc e size (.slice ao xs.length c) ((xs.zip gs).set i (y',q'))::InR rin ((xs.zip gs).set i (y',q')) hs::R.eraseIdx j) F:=by
  rw[← e1];exact hp'
 have h3:=hp2.reN hnd
 rw[← qj1,show ((xs.set i y').zip (gs.set i q')).map (·.1)=xs.set i y' from qD8 (by simp;omega),show ((xs.set i y').zip (gs.set i q')).map (·.2)=gs.set i q' from qEA (by simp;omega)] at h3
 rw[hsl]
 exact h3
theorem jX {y:Operand}{g kh:Nat}{y':α}{q':γ}{k:List α→Option ρ}(henc:EncOk enc size)(hw:wants ops l ⟨none,.store t' x y,t,pos,af,gd⟩=some true)(hx:ev l x=some (.pointer (some ⟨g,i*size,none⟩)))(hy:ev l y=some V)(hT:TyF P t' agg z size bytes)(hR:R[j]?=some (RoN enc rin e size (.slice ao xs.length c) xs gs hs))(hg:(Value.slice ao xs.length c).ownBlock=some g)(hk:hs[kh]?=some i)(hi:i<xs.length)(hV:V.cells.toList=enc (y',q'))(hTk:Takes (R.eraseIdx j) ((rin (y',q')).map RowF.row) R')(h:∀ ys,xs.set i y'=ys→Value.slice ao xs.length c=.slice ao ys.length c→∀ ks:List γ,SXO P ro n D M0 w0 Q ops rest l B (RoN enc rin e size (.slice ao ys.length c) ys ks (hs.eraseIdx kh)::R') F (k ys) r) :
  SXO P ro n D M0 w0 Q ops (⟨none,.store t' x y,t,pos,af,gd⟩::rest) l B R F (lett (xs.set i y') k) r:=by
 intro hm a w hf hp
 obtain ⟨hl,hnd⟩:=hp.nestOk hR
 refine qsq henc hw hx hy hT hR hg (qCq hk) hi hV (fun ys hys hv=>?_) hm a w hf hp
 intro hm' a' w' hf' hp'
 refine h ys hys hv (gs.set i q') hm' a' w' hf' ?_
 have hz:((xs.set i y').zip (gs.set i q'))[i]?=some (y',q'):=by
  rw[qj1,List.getElem?_set_self]
  rw[yj hl];exact hi
 rw[hys] at hz
 have hp2:=hp'.perm (qCU _) (hTk.perm.cons _)
 have hp3:=hp2.perm (qCU _) (qDi (l₁:=(rin (y',q')).map RowF.row) (a:=RoN enc rin e size (.slice ao ys.length c) ys (gs.set i q') hs) (l₂:=R')).symm
 have hTkk:∀ (A C:List RowD),Takes (A++C) A C:=by
  intro A
  induction A with
  | nil=>intro C;exact .nil
  | cons a A ih=>intro C;exact .cons 0 rfl (ih C)
 exact hp3.closeN (i:=0) (hTkk _ _) rfl hk hz
theorem qmj (xs:List α)(gs:List γ)(hR:R[i]?=some (Ro enc e size v (xs.zip gs)))(hl:gs.length=xs.length)(hT:Takes (R.eraseIdx i) (((xs.zip gs).flatMap rin).map RowF.row) R')(h:SXO P ro n D M0 w0 Q ops rest l B (RoN enc rin e size v xs gs []::R') F m r):SXO P ro n D M0 w0 Q ops rest l B R F m r :=
 fun hm a w hf hp=>h hm a w hf (hp.nestOf hR hl hT)
theorem qrT {zc:List Value}(hsz:zc.length=size)(h0:size≠0){ca:Array Value}(hc:ca.toList=zc)(k:Nat):(madeCells ca (k*size)).toList=(qCo k zc).flatten:=by
 have hca:ca.size=size:=by rw[← hsz,← hc,Array.length_toList]
 have hfl:∀ (k:Nat),((qCo k zc).flatten).length=k*size:=by
  intro k
  induction k with
  | zero=>simp
  | succ k ih=>rw[qDp,qEX,qCt,ih,hsz,Nat.succ_mul];omega
 apply qDe
 ·rw[hfl];simp[madeCells]
 ·intro i h1 h2
  have hi:i<k*size:=by rw[hfl] at h2;exact h2
  have hget:∀ (k i:Nat) (h:i<((qCo k zc).flatten).length),((qCo k zc).flatten)[i]=zc[i%size]'(by rw[hsz];exact Nat.mod_lt _ (by omega)):=by
   intro k
   induction k with
   | zero=>intro i h;simp at h
   | succ k ih =>
    intro i h
    simp only[qDp,qEX,List.getElem_append]
    split
    ·rename_i hlt
     have:i%size=i:=Nat.mod_eq_of_lt (by omega)
     simp only[this]
    ·rename_i hlt
     rw[ih]
     have:(i-zc.length)%size=i%size:=by
      rw[hsz]
      have hge:size≤i:=by omega
      exact (Nat.mod_eq_sub_mod hge).symm
     simp only[this]
  rw[hget]
  simp only[madeCells,Array.getElem_toList,Array.getElem_map,Array.getElem_range]
  have hlt:i%ca.size<ca.size:=Nat.mod_lt _ (by omega)
  rw[getElem!_pos ca _ hlt]
  subst hc
  simp only[Array.getElem_toList,hca]
theorem qoo {enc:β→List Value}{y:β}{zc:List Value}(h:enc y=zc)(k:Nat):(qCo k y).flatMap enc=(qCo k zc).flatten:=by
 induction k with
 | zero=>rfl
 | succ k ih=>rw[qDp,qCz,ih,h];rfl
theorem qt0 {enc:β→List Value}{y:β}{k:List β→Option ρ}{c:Operand}{kl kc:IntKind}{i:Int}(henc:EncOk enc size)(hs0:size≠0)(hw:wants ops l ⟨some d,.makeSlice t' x c,t,pos,af,gd⟩=some true)(ht:P.underlying t'=some (.slice e))(hT:TyF P e agg z size bytes)(hx:ev l x=some (.int kl i))(hc:ev l c=some (.int kc i))(hy:enc y=z.cells.toList)(hlim:Nat.ble lim 9223372036854775807=true)(hlb:Nat.ble (lim*bytes) 281474976710656=true)(hd:Nat.blt d n=true)(h:∀ ys,mk lim y i=some ys→∀ a c,SXO P ro n D M0 w0 Q ops rest ((d,.slice a ys.length c)::l) B (Ro enc e size (.slice a ys.length c) ys::R) F (k ys) r) :
  SXO P ro n D M0 w0 Q ops (⟨some d,.makeSlice t' x c,t,pos,af,gd⟩::rest) l B R F ((mk lim y i).bind k) r:=by
 refine k6 hw fun hm a w hf hp=>?_
 cases hq:mk lim y i with
 | none=>rw[hq] at hm;simp at hm
 | some ys =>
  rw[hq] at hm
  have hm':k ys=some r:=by simpa using hm
  have hq0:=hq
  unfold mk at hq
  split at hq
  ·rename_i hb
   simp only[qCy] at hq
   obtain ⟨N,rfl⟩:=qCp hb.1
   have hN:N≤lim:=by omega
   have hlim':=qDh hlim
   have hlb':=qDh hlb
   obtain ⟨i0,hi,hz0,hs0',hb0⟩:=hT.inf
   subst hb0
   obtain ⟨w',hr,ho,hk⟩:=qns (P:=P) (w:=w) ht hi hz0 hs0' kl kc N (qDf (qCR _ hN) hlb') (by simp only[maxLen];omega)
   have h1:=hf.ev hx
   have h2:=hf.ev hc
   have hyl:ys.length=N:=by rw[← hq];simp
   have hzl:z.cells.toList.length=size:=by rw[← hy];exact henc.len y
   have hz:=h ys hq0 (some ⟨w.heap.size,0,none⟩) N
   rw[hyl] at hz
   refine ⟨_,w',?_,hz hm' _ _ (hf.put hd (.slice (some ⟨w.heap.size,0,none⟩) N N)) (hp.addRow hk ?_ ?_)⟩
   ·generalize a.eval=ε at h1 h2 ⊢
    simp[execOp,h1,h2,hr]
   ·show w'.ownsRow 0 e size _ ys.length (ys.flatMap enc)
    rw[hyl,← hq]
    simp only[qCs]
    rw[qoo hy,← qrT hzl hs0 rfl]
    exact ho
   ·intro g hg'
    simp[Ro,Value.ownBlock] at hg'
    omega
  ·simp at hq
theorem qzD {y:α}{q:γ}{k:List α→Option ρ}{c:Operand}{kl kc:IntKind}{i:Int}(henc:EncOk enc size)(hs0:size≠0)(hri:∀ f∈rin (y,q),f.v=.slice none 0 0∧f.n=0∧f.cs=[])(hw:wants ops l ⟨some d,.makeSlice t' x c,t,pos,af,gd⟩=some true)(ht:P.underlying t'=some (.slice e))(hT:TyF P e agg z size bytes)(hx:ev l x=some (.int kl i))(hc:ev l c=some (.int kc i))(hy:enc (y,q)=z.cells.toList)(hlim:Nat.ble lim 9223372036854775807=true)(hlb:Nat.ble (lim*bytes) 281474976710656=true)(hd:Nat.blt d n=true)(h:∀ ys,mk lim y i=some ys→∀ a c,SXO P ro n D M0 w0 Q ops rest ((d,.slice a ys.length c)::l) B (RoN enc rin e size (.slice a ys.length c) ys (qCo ys.length q) []::R) F (k ys) r) :
  SXO P ro n D M0 w0 Q ops (⟨some d,.makeSlice t' x c,t,pos,af,gd⟩::rest) l B R F ((mk lim y i).bind k) r:=by
 have hmk:(mk lim y i).bind k=(mk lim (y,q) i).bind (fun ps=>k (ps.map (·.1))):=by
  unfold mk
  split
  ·simp
  ·rfl
 rw[hmk]
 refine qt0 (enc:=enc) henc hs0 hw ht hT hx hc hy hlim hlb hd fun ps hps a0 c0=>?_
 have h1:mk lim y i=some (ps.map (·.1))∧ps=((ps.map (·.1)).zip (qCo (ps.map (·.1)).length q))∧∀ p∈ps,p=(y,q):=by
  unfold mk at hps ⊢
  split at hps
  ·rename_i hb
   simp only[qCy] at hps
   rw[if_pos hb,← hps]
   refine ⟨by simp,?_,fun p hp=>(List.mem_replicate.1 hp).2⟩
   rw[List.map_replicate,qC3,List.zip_replicate']
  ·simp at hps
 obtain ⟨h1,h2,h3⟩:=h1
 have h4:=h _ h1 a0 c0
 rw[qCX] at h4
 intro hm a w hf hp
 refine h4 hm a w hf ?_
 have hp':Hp M0 w0 w B (Ro enc e size (.slice a0 ps.length c0) ((ps.map (·.1)).zip (qCo (ps.map (·.1)).length q))::R) F:=by rw[← h2];exact hp
 have:=hp'.nestNil (i:=0) (rin:=rin) rfl (by simp) (fun p hp f hf=>by
  rw[← h2] at hp
  rw[h3 p hp] at hf
  exact hri f hf)
 rw[qCX] at this
 exact this
theorem qxX (α γ:Type)(enc:α×γ→List Value)(rin:α×γ→List RowF)(e:TypeId)(size:Nat)(h:SXO P ro n D M0 w0 Q ops rest l B (RoN enc rin e size (.slice none 0 0) ([]:List α) ([]:List γ) []::R) F m r):SXO P ro n D M0 w0 Q ops rest l B R F m r :=
 qgf (α×γ) enc e size fun hm a w hf hp=>h hm a w hf (hp.nestNil (i:=0) (xs:=[]) (gs:=[]) rfl rfl (by simp))
theorem nilN (α γ:Type)(enc:α×γ→List Value)(rin:α×γ→List RowF)(e:TypeId)(size:Nat)(hp:Hp M0 w0 w B R F):Hp M0 w0 w B (RoN enc rin e size (.slice none 0 0) ([]:List α) ([]:List γ) []::R) F :=
 (hp.addRow (r:=Ro enc e size (.slice none 0 0) (([]:List α).zip ([]:List γ))) (Keeps.refl _ _) ⟨by simp[Ro],.inl ⟨rfl,rfl⟩⟩ (by simp[Ro,Value.ownBlock])).nestNil (i:=0) (xs:=[]) (gs:=[]) rfl rfl (by simp)
theorem qxG {x:Code}(α γ:Type)(enc:α×γ→List Value)(rin:α×γ→List RowF)(e:TypeId)(size:Nat)(h:SXC P ro n D M0 w0 Q x l B (RoN enc rin e size (.slice none 0 0) ([]:List α) ([]:List γ) []::R) F m r):SXC P ro n D M0 w0 Q x l B R F m r :=
 fun hm a w hf hp=>h hm a w hf (nilN α γ enc rin e size hp)
theorem qx2 {x:Exit}(α γ:Type)(enc:α×γ→List Value)(rin:α×γ→List RowF)(e:TypeId)(size:Nat)(h:SXQ n D M0 w0 Q x l B (RoN enc rin e size (.slice none 0 0) ([]:List α) ([]:List γ) []::R) F m r):SXQ n D M0 w0 Q x l B R F m r :=
 fun hm a w hf hp=>h hm a w hf (nilN α γ enc rin e size hp)
theorem qJ {p:α×γ}{g e:Nat}(henc:EncOk enc size)(hy:(xs.zip gs)[i]?=some p)(ha:ao=some ⟨g,0,none⟩) :
  ∀ w,Cells (RoN enc rin e size (.slice ao xs.length c) xs gs hs).v (RoN enc rin e size (.slice ao xs.length c) xs gs hs).n (RoN enc rin e size (.slice ao xs.length c) xs gs hs).size (RoN enc rin e size (.slice ao xs.length c) xs gs hs).cs w→yG g (i*size) (enc p) w:=by
 intro w h jj u hj
 obtain ⟨⟨ao',cap',hv',_,_,_,hc'⟩,_⟩:=(h:Cells (.slice ao xs.length c) xs.length size ((xs.zip gs).flatMap enc) w)
 have hv2:Value.slice ao xs.length c=.slice ao' xs.length cap':=hv'
 simp only[Value.slice.injEq] at hv2
 obtain ⟨rfl,-,-⟩:=hv2
 obtain ⟨ad',h3,h4⟩:=hc' (i*size+jj) u (vf henc _ i p jj u hy hj)
 rw[ha] at h3
 simp only[qCy] at h3
 subst h3
 rw[← h4]
 simp
theorem qqT {ys:List α}{ks:List γ}{k:List α→Option ρ}{s:Operand}{uo:Option Addr}{ca cu:Nat}{RS:List RowD}(henc:EncOk enc size)(hw:wants ops l ⟨some d,.call ⟨.builtin .append,#[s,x],#[t',t']⟩,t,pos,af,gd⟩=some true)(ht:P.underlying t'=some (.slice e))(hT:TyF P e agg z size bytes)(hzs:z.cells.size=size)(hd:Nat.blt d n=true)(hs:ev l s=some (.slice ao xs.length ca))(hx:ev l x=some (.slice uo ys.length cu))(hTk:Takes R [RoN enc rin e size (.slice ao xs.length ca) xs gs [],RoN enc rin e size (.slice uo ys.length cu) ys ks []] RS)(hlim:Nat.ble lim 9223372036854775807=true)(hlb:Nat.ble (lim*bytes) 140737488355328=true)(h:∀ zs,app lim xs ys=some zs→∀ a c,SXO P ro n D M0 w0 Q ops rest ((d,.slice a zs.length c)::l) B (RoN enc rin e size (.slice a zs.length c) zs (gs++ks) []::RS) F (k zs) r) :
  SXO P ro n D M0 w0 Q ops (⟨some d,.call ⟨.builtin .append,#[s,x],#[t',t']⟩,t,pos,af,gd⟩::rest) l B R F ((app lim xs ys).bind k) r:=by
 intro hm a w hf hp
 have hp0:=hp.perm (qCU _) hTk.perm
 obtain ⟨hl1,_⟩:=hp0.nestOk (i:=0) rfl
 obtain ⟨hl2,_⟩:=hp0.nestOk (i:=1) rfl
 have hp1:=hp0.unN (i:=0) rfl
 have hp2:=hp1.unN (i:=2) rfl
 have happ:(app lim xs ys).bind k=(app lim (xs.zip gs) (ys.zip ks)).bind (fun ps=>k (ps.map (·.1))):=by
  unfold app
  rw[yj hl1,yj hl2]
  split
  ·simp only[Option.bind_some]
   rw[qDD,qD8 (by omega),qD8 (by omega)]
  ·rfl
 rw[happ] at hm
 have hs':ev l s=some (.slice ao (xs.zip gs).length ca):=by rw[yj hl1];exact hs
 have hx':ev l x=some (.slice uo (ys.zip ks).length cu):=by rw[yj hl2];exact hx
 have hp3:Hp M0 w0 w B (Ro enc e size (.slice ao (xs.zip gs).length ca) (xs.zip gs)::Ro enc e size (.slice uo (ys.zip ks).length cu) (ys.zip ks)::InR rin (xs.zip gs) []::InR rin (ys.zip ks) []::RS) F:=by
  rw[yj hl1,yj hl2]
  refine hp2.perm (qCU _) ?_
  have p1:∀ (a2 b2 a1 b1:RowD) (S:List RowD),(a2::b2::a1::b1::S).Perm (a1::a2::b1::b2::S):=fun a2 b2 a1 b1 S =>
   (qDi (l₁:=[a2,b2]) (a:=a1) (l₂:=b1::S)).trans (qEO _ (qEO _ (qFc ..)))
  exact p1 _ _ _ _ _
 refine zA (R:=Ro enc e size (.slice ao (xs.zip gs).length ca) (xs.zip gs)::Ro enc e size (.slice uo (ys.zip ks).length cu) (ys.zip ks)::InR rin (xs.zip gs) []::InR rin (ys.zip ks) []::RS) (k:=fun ps=>k (ps.map (·.1))) 0 henc hw ht hT hzs hd hs' hx' rfl (.inl ⟨1,_,rfl⟩) hlim hlb (fun ps hps a0 c0=>?_) hm a w hf hp3
 intro hm' a' w' hf' hp'
 have hps':app lim xs ys=some (ps.map (·.1))∧ps=xs.zip gs++ys.zip ks:=by
  unfold app at hps ⊢
  rw[yj hl1,yj hl2] at hps
  split at hps
  ·rename_i hb
   simp only[qCy] at hps
   rw[if_pos hb,← hps,qDD,qD8 (by omega),qD8 (by omega)]
   exact ⟨rfl,rfl⟩
  ·simp at hps
 obtain ⟨h1,h2⟩:=hps'
 have h4:=h _ h1 a0 c0
 rw[qCX] at h4
 refine h4 hm' a' w' hf' ?_
 have hp4:Hp M0 w0 w' B (Ro enc e size (.slice a0 ps.length c0) ps::InR rin (xs.zip gs) []::InR rin (ys.zip ks) []::RS) F:=hp'.weaken (qCS _) ((List.sublist_cons_self _ _).cons_cons _) (fun _ h=>h)
 have hblk:((InR rin (xs.zip gs) []).blocks++(InR rin (ys.zip ks) []).blocks)=(InR rin ps []).blocks:=by
  rw[qfT,qfT,qfT,qbi,qbi,qbi,h2,qCQ,qEG]
 have hp5:Hp M0 w0 w' B (Ro enc e size (.slice a0 ps.length c0) ps::InR rin ps []::RS) F:=by
  refine hp4.rowsP (fun r hr=>?_) ?_
  ·rcases qCu.1 hr with rfl | hr
   ·exact hp4.rows _ (qCC ..)
   ·rcases qCu.1 hr with rfl | hr
    ·refine ⟨⟨rfl,.inl ⟨rfl,rfl⟩⟩,fun f hf=>?_⟩
     have hf':f∈(outs [] 0 ps).flatMap rin:=hf
     rw[qbi,h2,qCQ] at hf'
     rcases qCr.1 hf' with hf' | hf'
     ·exact (hp4.rows (InR rin (xs.zip gs) []) (by simp)).2 f (by show f∈(outs [] 0 (xs.zip gs)).flatMap rin;rw[qbi];exact hf')
     ·exact (hp4.rows (InR rin (ys.zip ks) []) (by simp)).2 f (by show f∈(outs [] 0 (ys.zip ks)).flatMap rin;rw[qbi];exact hf')
    ·exact hp4.rows r (by simp[hr])
  ·simp only[qCz]
   rw[← hblk,qCv]
 have h5:=hp5.reN (hs:=[]) List.nodup_nil
 have h6:ps.map (·.2)=gs++ks:=by rw[h2,qDD,qEA (by omega),qEA (by omega)]
 rw[h6] at h5
 exact h5
def pkey (k0 k1:IntKind)(p:Int×Int):Value:=.agg #[.int k0 p.1,.int k1 p.2]
def ents (k0 k1:IntKind):Nat→List (Int×Int)→List MapEntry
 | _,[]=>[]
 | i,p::t=>{ key:=pkey k0 k1 p,val:=.agg #[],born:=i }::ents k0 k1 (i+1) t
def mapO (k0 k1:IntKind)(ks:List (Int×Int)):Obj:=.map (ents k0 k1 0 ks).toArray ks.length
theorem qm5 (k0 k1:IntKind)(p:Int×Int):∀ (i:Nat) (ks:List (Int×Int)),ents k0 k1 i (ks++[p])=ents k0 k1 i ks++[{ key:=pkey k0 k1 p,val:=.agg #[],born:=i+ks.length }]
 | i,[]=>rfl
 | i,x::t=>by
  show _::ents k0 k1 (i+1) (t++[p])=_::(ents k0 k1 (i+1) t++_)
  rw[qm5 k0 k1 p (i+1) t,List.length_cons,show i+1+t.length=i+(t.length+1) from by omega]
theorem qge {r:Nat}{es:Array MapEntry}(h:w.heap[r]?=some (.map es c)):(getObj r).run P w=.ok (.map es c) w:=by
 simp[getObj,Sem.run,h]
theorem qkN {r:Nat}{o:Obj}{es:Array MapEntry}(h:w.heap[r]?=some (.map es c)):(setObj r o).run P w=.ok () (w.putObj r o):=by
 simp[setObj,Sem.run,h,World.putObj]
variable {k0 k1:IntKind}
theorem qiB (hE:StE2 P t k0 k1)(em:Bool)(p:Int×Int):(Instr.checkKey em 10000 t (pkey k0 k1 p)).run P w=.ok () w:=by
 obtain ⟨f0,f1,hs,hst,hg,n0,n1,o0,o1,u0,u1⟩:=hE.out
 have c0:∀ n,(Instr.checkKey em (n+1) f0.type (.int k0 p.1)).run P w=.ok () w:=fun n=>by simp[Instr.checkKey,run_underlying u0]
 have c1:∀ n,(Instr.checkKey em (n+1) f1.type (.int k1 p.2)).run P w=.ok () w:=fun n=>by simp[Instr.checkKey,run_underlying u1]
 have p0:(part f0.type #[.int k0 p.1,.int k1 p.2] 0).run P w=.ok (.int k0 p.1) w:=k5 u0 rfl
 have p1:(part f1.type #[.int k0 p.1,.int k1 p.2] 1).run P w=.ok (.int k1 p.2) w:=k5 u1 rfl
 have h0:=c0 9998
 have h1:=c1 9998
 simp only[show (9998+1:Nat)=9999 from rfl] at h0 h1
 unfold pkey
 rw[Instr.checkKey]
 generalize Instr.checkKey em 9999=ck at h0 h1
 simp[run_underlying hs,n0,n1,o0,o1,p0,p1,h0,h1]
theorem qkM (hE:StE2 P t k0 k1)(p:Int×Int):∀ (ks:List (Int×Int)) (i j:Nat),∃ r,(Instr.findAsking t (pkey k0 k1 p) (ents k0 k1 i ks) j).run P w=.ok r w∧((p∈ks∧∃ q,r=some (q,.agg #[]))∨(p∉ks∧r=none))
 | [],i,j=>⟨none,by simp[ents,Instr.findAsking],.inr ⟨by simp,rfl⟩⟩
 | x::ks,i,j=>by
  obtain ⟨f0,f1,hs,hst,hg,n0,n1,o0,o1,u0,u1⟩:=hE.out
  have he:=qpZ (w:=w) (a:=p.1) (b:=p.2) (c:=x.1) (d:=x.2) hs hst n0 n1 o0 o1 u0 u1
  obtain ⟨r,h1,h2⟩:=qkM hE p ks (i+1) (j+1)
  have he':(Op.equal t (pkey k0 k1 p) (pkey k0 k1 x)).run P w=.ok ((p.1 == x.1) && (p.2 == x.2)) w:=he
  by_cases hpx:p=x
  ·subst hpx
   refine ⟨some (j,.agg #[]),?_,.inl ⟨by simp,_,rfl⟩⟩
   simp only[ents,Instr.findAsking,Sem.run_bind,he',Result.andThen_ok]
   simp
  ·have hf:((p.1 == x.1) && (p.2 == x.2))=false:=by
    rw[Bool.and_eq_false_iff]
    by_cases e:p.1=x.1
    ·right;simp only[beq_eq_false_iff_ne];exact fun e2=>hpx (Prod.ext e e2)
    ·left;simpa using e
   refine ⟨r,?_,?_⟩
   ·simp only[ents,Instr.findAsking,Sem.run_bind,he',Result.andThen_ok,hf,qCF,if_false]
    exact h1
   ·rcases h2 with ⟨m1,m2⟩ | ⟨m1,m2⟩
    ·exact .inl ⟨qCD _ m1,m2⟩
    ·exact .inr ⟨by simp[hpx,m1],m2⟩
theorem qjI (hE:StE2 P t k0 k1)(p:Int×Int)(ks:List (Int×Int)):∃ r,(Instr.findKey t (pkey k0 k1 p) (ents k0 k1 0 ks)).run P w=.ok r w∧((p∈ks∧∃ q,r=some (q,.agg #[]))∨(p∉ks∧r=none)):=by
 obtain ⟨f0,f1,hs,_⟩:=hE.out
 cases ks with
 | nil=>exact ⟨none,by simp[Instr.findKey,run_underlying hs,ents,Instr.findNow],.inr ⟨by simp,rfl⟩⟩
 | cons x ks =>
  obtain ⟨r,h1,h2⟩:=qkM (w:=w) hE p (x::ks) 0 0
  refine ⟨r,?_,h2⟩
  simp only[Instr.findKey,Sem.run_bind,run_underlying hs,Result.andThen_ok]
  simp only[ents,Instr.findNow,Instr.sameNow,pkey] at h1 ⊢
  exact h1
variable {kt:TypeId}
theorem qqY (hw:wants ops l ⟨some d,.makeMap t' none,t,pos,af,gd⟩=some true)(hd:Nat.blt d n=true)(h:∀ g,SXO P ro n D M0 w0 Q ops rest ((d,.map (some g))::l) (blkO g (mapO k0 k1 [])::B) R F m r):SXO P ro n D M0 w0 Q ops (⟨some d,.makeMap t' none,t,pos,af,gd⟩::rest) l B R F m r :=
 k6 hw fun hm a w hf hp=>by
  refine ⟨.map (some w.heap.size),w.alloc (mapO k0 k1 []),?_,h _ hm _ _ (hf.put hd _) (hp.allocO _)⟩
  generalize a.eval=ε
  simp[execOp,Instr.makeMap,newObj,mapO,ents,Sem.run]
theorem qqX {g:Nat}{p:Int×Int}{ks:List (Int×Int)}(hw:wants ops l ⟨some d,.lookup t' x ix true,t,pos,af,gd⟩=some true)(ht:P.underlying t'=some (.map kt e))(hE:StE2 P kt k0 k1)(hT:TyF P e agg (.agg #[]) size bytes)(hx:ev l x=some (.map (some g)))(hi:ev l ix=some (.agg #[.int k0 p.1,.int k1 p.2]))(hB:B[i]?=some (blkO g (mapO k0 k1 ks)))(hd:Nat.blt d n=true)(h:SXO P ro n D M0 w0 Q ops rest ((d,.tuple #[.agg #[],.bool (decide (p∈ks))])::l) B R F m r):SXO P ro n D M0 w0 Q ops (⟨some d,.lookup t' x ix true,t,pos,af,gd⟩::rest) l B R F m r :=
 qP _ hw rfl hd (fun a w hf hp=>by
  have h1:=hf.ev hx
  have h2:=hf.ev hi
  have hb:w.heap[g]?=some (.map (ents k0 k1 0 ks).toArray ks.length):=hp.blk _ (qCq hB)
  have hg:=qge (P:=P) hb
  have hc:=qiB (w:=w) hE (ents k0 k1 0 ks).toArray.isEmpty p
  obtain ⟨q,hq,hr⟩:=qjI (w:=w) hE p ks
  have hz:=hT.run_zero w
  generalize a.eval=ε at h1 h2 ⊢
  have hi':(Value.agg #[.int k0 p.1,.int k1 p.2])=pkey k0 k1 p:=rfl
  rw[hi'] at h2
  generalize hck:Instr.checkKey (ents k0 k1 0 ks).toArray.isEmpty 10000 kt (pkey k0 k1 p)=ck at hc
  generalize hzz:zeroValue e=zz at hz
  simp only[execOp,h1,h2,Instr.lookup,Sem.run_bind,run_underlying ht,Result.andThen_ok,hg,Sem.run_pure,hck,hc,hq]
  rcases hr with ⟨m1,q',rfl⟩ | ⟨m1,rfl⟩
  ·simp[m1]
  ·simp[m1,hzz,hz]) h
def sins (ks:List (Int×Int))(p:Int×Int):Option (List (Int×Int)):=if p∈ks then none else some (ks++[p])
theorem qsn {y:Operand}{g:Nat}{p:Int×Int}{ks:List (Int×Int)}{k:List (Int×Int)→Option ρ}(hw:wants ops l ⟨none,.mapUpdate t' x ix y,t,pos,af,gd⟩=some true)(ht:P.underlying t'=some (.map kt e))(hE:StE2 P kt k0 k1)(hx:ev l x=some (.map (some g)))(hi:ev l ix=some (.agg #[.int k0 p.1,.int k1 p.2]))(hy:ev l y=some (.agg #[]))(hB:B[i]?=some (blkO g (mapO k0 k1 ks)))(h:∀ ys,sins ks p=some ys→SXO P ro n D M0 w0 Q ops rest l (B.set i (blkO g (mapO k0 k1 ys))) R F (k ys) r):SXO P ro n D M0 w0 Q ops (⟨none,.mapUpdate t' x ix y,t,pos,af,gd⟩::rest) l B R F ((sins ks p).bind k) r:=by
 intro hm a w hf hp
 cases hq:sins ks p with
 | none=>rw[hq] at hm;simp at hm
 | some ys =>
  rw[hq] at hm
  have hm':k ys=some r:=by simpa using hm
  have hq0:=hq
  unfold sins at hq
  split at hq
  ·simp at hq
  ·rename_i hn
   simp only[qCy] at hq
   have h1:=hf.ev hx
   have h2:=hf.ev hi
   have h3:=hf.ev hy
   have hb:w.heap[g]?=some (.map (ents k0 k1 0 ks).toArray ks.length):=hp.blk _ (qCq hB)
   have hg:=qge (P:=P) hb
   have hc:=qiB (w:=w) hE false p
   obtain ⟨q,hfk,hr⟩:=qjI (w:=w) hE p ks
   have hq':q=none:=by
    rcases hr with ⟨m1,_⟩ | ⟨_,m2⟩
    ·exact absurd m1 hn
    ·exact m2
   subst hq'
   have hset:=qkN (P:=P) (o:=mapO k0 k1 ys) hb
   have hi':(Value.agg #[.int k0 p.1,.int k1 p.2])=pkey k0 k1 p:=rfl
   rw[hi'] at h2
   have hobj:Obj.map (ents k0 k1 0 ks++[({ key:=pkey k0 k1 p,val:=.agg #[],born:=ks.length }:MapEntry)]).toArray (ks.length+1)=mapO k0 k1 ys:=by
    rw[← hq]
    unfold mapO
    rw[qm5,qCt,qDg]
    simp
   have hrun:(execOp a.eval ⟨none,.mapUpdate t' x ix y,t,pos,af,gd⟩).run P w=.ok .skip (w.putObj g (mapO k0 k1 ys)):=by
    generalize a.eval=ε at h1 h2 h3 ⊢
    generalize hck:Instr.checkKey false 10000 kt (pkey k0 k1 p)=ck at hc
    simp only[execOp,h1,h2,h3,Instr.mapUpdate,Sem.run_bind,run_underlying ht,Result.andThen_ok,hg,mapO,hck,hc,hfk]
    simp only[mapO] at hobj hset
    simp only[List.push_toArray,hobj]
    simp[hset]
   exact qfo (zu hf hw) (yV hw) hrun (h _ hq0 hm' _ _ hf (hp.setObj hB _))
end SX
