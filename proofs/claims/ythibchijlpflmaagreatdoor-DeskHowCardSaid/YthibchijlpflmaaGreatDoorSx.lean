/- A layer of rules for walking Go code: what a frame's slots hold, what blocks and rows of the heap hold; each rule speaks of a plain model's value: part 2. -/
import Derived.Test.YthibchijlpflmaaGreatDoorSw
import Derived.RangeFuncLeaves
import Derived.RangeFuncRecord
import Derived.RangeFuncSeq
import Derived.OrdersIn
import Derived.Defers
import Derived.Recover
import Derived.Tactics
import Derived.Tactics2
import Derived.Laws.Pointers
import Derived.ProofKit
import Derived.Shelf.Sort.Plain
import Derived.Shelf.Slices.CompactI
import Derived.Laws.StructEq
import Derived.Laws.BytesString
open Bool renaming false_eq_true→qBq, and_eq_true→qBY
open Int renaming eq_ofNat_of_zero_le→qBf, toNat_natCast→qBh, le_trans→qDz
open List renaming replicate→qBd, mem_of_getElem?→qBe, mem_append→qBg, mem_cons→qBi, length_append→qBk, append_assoc→qBn, mem_cons_self→qBp, mem_singleton→qBr, length_set→qBs, mem_cons_of_mem→qBt, getElem?_eq_some_iff→qBv, flatMap_cons→qBz, length_map→qBD, mem_map→qBI, ext_getElem?→qBO, all_eq_true→qBQ, append_nil→qBR, length_replicate→qBT, map_cons→qBU, nodup_append→qBV, mem_flatMap→qB1, cons_append→qB2, size_toArray→qB6, ext_getElem→qB8, perm_append_comm→qCb, getElem?_take_of_lt→qCd, perm_middle→qCe, replicate_succ→qCi, take_left→qCl, length_eq_zero_iff→qCt, zipIdx_cons→qCu, getElem?_drop→qCz, take_left'→qCC, flatMap_append→qCK, set_cons_succ→qCN, map_fst_zip→qCT, map_append→qC1, zip_cons_cons→qDp, flatten_cons→qDx, map_snd_zip→qDC, take_take→qDM
open List.Perm renaming refl→qBF, append_right→qC8, append_left→qDd, swap→qDK, cons→qDL
open List.Sublist renaming refl→qBE
open Nat renaming le_refl→qBo, zero_le→qBC, mul_le_mul_right→qBG, le_of_ble_eq_true→qBS, zero_add→qB0, mul_one→qB4, le_trans→qCc, min_eq_left→qC0
open Option.some renaming injEq→qBl
namespace SX
open Go
set_option linter.unusedSectionVars false
variable [DM]
def PureM (P:Program)(f:FuncId)(vs:List Value)(B0:List BlkD)(R0:List RowD)(Φ:List (World→Prop))(γ:Type)(V:γ→Value)(B1:γ→List BlkD)(R1:γ→List RowD):Prop :=
 ∀ w,Hp (muts B0 R0) w w B0 R0 Φ→Calls P f vs.toArray w fun e w'=>∃ g:γ,e=.returned (V g)∧Hp (muts B0 R0) w w' (B1 g) (R1 g) []
theorem qgy {B1 B2:List BlkD}{R1 R2:List RowD}:(muts (B1++B2) (R1++R2)).Perm (muts B1 R1++muts B2 R2):=by
 grind [muts]
inductive Takes {α:Type}:List α→List α→List α→Prop
 | nil {R:List α}:Takes R [] R
 | cons {R R' S:List α} {r:α} (i:Nat) (h:R[i]?=some r) (hp:Takes (R.eraseIdx i) R' S):Takes R (r::R') S
variable {a:Act}{tys:Array TypeId}{args cap first:Array Value}{agg:Bool}{fn:Func}{f:FuncId}{Φ:List (World→Prop)}{B' B0 BS:List BlkD}{ch:List PanicEntry}{R0 RS:List RowD}{vs:List Value}{N bytes c d fuel i j:Nat}{o oi:Oper}{x x0 y:Operand}{ao:Option Addr}{dst:Option Tmp}{α σ:Type}{T t' xt:TypeId}{z:Value}{xs:List α}{BL:σ→List BlkD}
theorem Takes.perm {R R' S:List α}(h:Takes R R' S):R.Perm (R'++S):=by
 induction h with
 | nil=>rfl
 | cons i h _ ih =>
  obtain ⟨R1,R2,rfl,he⟩:=qel h
  rw[he] at ih
  exact qCe.trans (qDL _ ih)
theorem Hp.perm {M0 : List Nat}{w0 w : World}{B:List BlkD}{R R' : List RowD}{F : List (World → Prop)}(h : Hp M0 w0 w B R F)(hB : B.Perm B')(hR : R.Perm R') : Hp M0 w0 w B' R' F := by
  have hp : (muts B R).Perm (muts B' R') := (hB.map _).append (hR.flatMap_right _)
  exact { keep := h.keep, blk := fun b hb => h.blk b (hB.mem_iff.2 hb), rows := fun r hr => h.rows r (hR.mem_iff.2 hr), nodup := hp.nodup_iff.1 h.nodup,
          fresh := fun g hg => h.fresh g (hp.mem_iff.2 hg), per := fun φ hφ => (h.per φ hφ).less fun k hk => hp.mem_iff.2 hk }
theorem Hp.callM {M0:List Nat}{w0 w w':World}{B1:List BlkD}{R1:List RowD}{F:List (World→Prop)}(h:Hp M0 w0 w (B0++BS) (R0++RS) F)(hr:Hp (muts B0 R0) w w' B1 R1 []):Hp M0 w0 w' (B1++BS) (R1++RS) F:=by
 have hm:=qgy (B1:=B0) (B2:=BS) (R1:=R0) (R2:=RS)
 have hm1:=qgy (B1:=B1) (B2:=BS) (R1:=R1) (R2:=RS)
 have hnd:=hm.nodup_iff.1 h.nodup
 have hdis:∀ k∈muts BS RS,k∉muts B0 R0:=fun k hk hk'=>(qBV.1 hnd).2.2 k hk' k hk rfl
 refine h.turn (muts B0 R0) hr.keep (fun k hk=>hm.mem_iff.2 (qBg.2 (.inl hk))) (fun b hb=>?_) (fun r0 h0=>?_) ?_ ?_
 ·rcases qBg.1 hb with hb | hb
  ·exact hr.blk b hb
  ·exact qbI (h.blk b (qBg.2 (.inr hb))) hr.keep (hdis _ (qBg.2 (.inl (qBI.2 ⟨b,hb,rfl⟩))))
 ·rcases qBg.1 h0 with h0 | h0
  ·exact hr.rows r0 h0
  ·exact ja (h.rows r0 (qBg.2 (.inr h0))) hr.keep fun g hg=>hdis _ (qBg.2 (.inr (qB1.2 ⟨r0,h0,hg⟩)))
 ·refine hm1.nodup_iff.2 (qBV.2 ⟨hr.nodup,(qBV.1 hnd).2.1,fun a ha b hb hab=>?_⟩)
  subst hab
  rcases hr.fresh a ha with h1 | h1
  ·exact hdis a hb h1
  ·have:=h.lt a (hm.mem_iff.2 (qBg.2 (.inr hb)));omega
 ·intro g hg
  rcases qBg.1 (hm1.mem_iff.1 hg) with h2 | h2
  ·rcases hr.fresh g h2 with h3 | h3
   ·exact .inl (hm.mem_iff.2 (qBg.2 (.inl h3)))
   ·exact .inr h3
  ·exact .inl (hm.mem_iff.2 (qBg.2 (.inr h2)))
inductive ArgsM (R:List RowD) (F:List (World→Prop)):List (World→Prop)→Prop
 | nil:ArgsM R F []
 | consF {φ:World→Prop} {Φ:List (World→Prop)} (j:Nat) (h:F[j]?=some φ) (ha:ArgsM R F Φ):ArgsM R F (φ::Φ)
 | consR {Φ:List (World→Prop)} (j:Nat) (rd:RowD) (h:R[j]?=some rd) (ha:ArgsM R F Φ):ArgsM R F (Cells rd.v rd.n rd.size rd.cs::Φ)
 | consG {φ:World→Prop} {Φ:List (World→Prop)} (j:Nat) {rd:RowD} (h:R[j]?=some rd) (hφ:∀ w,rd.owns w→φ w) (ha:ArgsM R F Φ):ArgsM R F (φ::Φ)
theorem ArgsM.ok {M0:List Nat}{w0 w:World}{F:List (World→Prop)}(ha:ArgsM RS F Φ)(hp:Hp M0 w0 w (B0++BS) (R0++RS) F):∀ φ∈Φ,Nec w (muts B0 R0) φ:=by
 have hm:=qgy (B1:=B0) (B2:=BS) (R1:=R0) (R2:=RS)
 have hnd:=hm.nodup_iff.1 hp.nodup
 induction ha with
 | nil=>simp
 | consF j h _ ih =>
  intro φ hφ
  rcases qBi.1 hφ with rfl | hφ
  ·exact (hp.per _ (qBe h)).less fun k hk=>hm.mem_iff.2 (qBg.2 (.inl hk))
  simp_all
 | consR j rd h _ ih =>
  intro φ hφ
  rcases qBi.1 hφ with rfl | hφ
  ·intro w' hk
   have hrd:=qBe h
   refine Cells.keeps (zn (hp.row _ (qBg.2 (.inr hrd)))) hk fun g hg hgm=>?_
   exact (qBV.1 hnd).2.2 g hgm g (qBg.2 (.inr (qB1.2 ⟨rd,hrd,RowD.blocks_v hg⟩))) rfl
  simp_all
 | @consG _ _ j rd h hg _ ih =>
  intro φ hφ
  rcases qBi.1 hφ with rfl | hφ
  ·intro w' hk
   have hrd:=qBe h
   refine hg w' (ja (hp.rows _ (qBg.2 (.inr hrd))) hk fun g hg' hgm=>?_)
   exact (qBV.1 hnd).2.2 g hgm g (qBg.2 (.inr (qB1.2 ⟨rd,hrd,hg'⟩))) rfl
  simp_all
theorem Hp.startM {M0:List Nat}{w0 w:World}{F:List (World→Prop)}(hp:Hp M0 w0 w (B0++BS) (R0++RS) F)(h:∀ φ∈Φ,Nec w (muts B0 R0) φ):Hp (muts B0 R0) w w B0 R0 Φ where
 keep:=Keeps.refl _ _
 blk:=fun b hb=>hp.blk b (qBg.2 (.inl hb))
 rows:=fun r hr=>hp.rows r (qBg.2 (.inl hr))
 nodup:=(qBV.1 (qgy.nodup_iff.1 hp.nodup)).1
 fresh:=fun _ hg=>.inl hg
 per:=h
variable {P:Program}{ro:Option Nat}{n:Nat}{D:List Deferred}{M0:List Nat}{w0:World}{Q:Exit→Act→World→Prop}{ρ:Type}
variable {ops:Array Oper}{rest:List Oper}{l:Env}{B:List BlkD}{R:List RowD}{F:List (World→Prop)}{m:Option ρ}{r:ρ}
variable {t:TypeId}{pos:String}{af:Array Edge}{gd:Option (Nat×Bool)}
theorem qcJ {γ:Type}{mg:Option α}{k:α→Option ρ}{xs:Array Operand}{V:α→γ→Value}{B1:α→γ→List BlkD}{R1:α→γ→List RowD}(he:Enters P f)(hw:wants ops l ⟨some d,.call ⟨.value (.func f),xs,tys⟩,t,pos,af,gd⟩=some true)(hx:evArgs l xs.toList=some vs)(hd:Nat.blt d n=true)(hC:∀ y,mg=some y→PureM P f vs B0 R0 Φ γ (V y) (B1 y) (R1 y))(hB:Takes B B0 BS)(hR:Takes R R0 RS)(ha:ArgsM RS F Φ)(h:∀ y,mg=some y→∀ g,SXO P ro n D M0 w0 Q ops rest ((d,V y g)::l) (B1 y g++BS) (R1 y g++RS) F (k y) r) :
  SXO P ro n D M0 w0 Q ops (⟨some d,.call ⟨.value (.func f),xs,tys⟩,t,pos,af,gd⟩::rest) l B R F (mg.bind k) r:=by
 intro hm a w hf hp
 cases hq:mg with
 | none=>simp_all
 | some y =>
  rw[hq] at hm
  have hm':k y=some r:=by grind
  have hp':=hp.perm hB.perm hR.perm
  refine qdi (zo hf hw) (yV hw) (qlG hf he hx) ((hC y hq w (hp'.startM (ha.ok hp'))).mono fun e w' ⟨g,h1,h2⟩=>⟨V y g,h1,?_⟩)
  exact h y hq g hm' _ _ (hf.put hd _) (hp'.callM h2)
theorem qjm {c:Code}{γ:Type}{V:γ→Value}{B1:γ→List BlkD}{R1:γ→List RowD}(hfn:P.funcs[f]?=some fn)(hb:fn.body=some c)(hn:fn.ntmps=N)(hvl:Nat.ble vs.length N=true)(hm:m=some r)(h:∀ w,SXC P none N [] (muts B0 R0) w (bodyPost P fn fun e w'=>∃ g:γ,e=.returned (V g)∧Hp (muts B0 R0) w w' (B1 g) (R1 g) []) c (vs.zipIdx.map fun p=>(p.2,p.1)) B0 R0 Φ m r):PureM P f vs B0 R0 Φ γ V B1 R1:=by
 intro w hp
 refine calls_of_wp hfn hb (qhx.1 (h w hm _ w ?_ hp))
 have hvl':vs.length≤N:=by simp_all
 refine ⟨rfl,by simp_all,fun i v hv=>?_⟩
 have key:∀ (vs:List Value) (k i:Nat) (v:Value),look ((vs.zipIdx k).map fun p=>(p.2,p.1)) i=some v→k≤i∧vs[i-k]?=some v:=by
  intro vs
  induction vs with
  | nil=>intro k i v hv;simp[look] at hv
  | cons u vs ih =>
   intro k i v hv
   simp only[qCu,qBU] at hv
   rw[qag] at hv
   split at hv
   ·simp_all
   grind
 grind
theorem yD {γ:Type}{V:γ→Value}{B1:γ→List BlkD}{R1:γ→List RowD}{w:World}{x:ρ}{e:Exit}(g:γ){v:Value}(hres:∀ a w',Fr n [] a l→Hp M0 w w' B R F→(results fn a.tmps).run P w'=.ok v w')(hB:x=r→Pick B (B1 g):=by intro h;subst h;exact .nil)(hR:x=r→Pick R (R1 g):=by intro h;subst h;exact .nil)(hv:x=r→v=V g:=by intro h;subst h;rfl)(he:e=.ret∨e=.normal:=by first | exact .inl rfl | exact .inr rfl) :
  SXQ n [] M0 w (bodyPost P fn fun e w'=>∃ g:γ,e=.returned (V g)∧Hp M0 w w' (B1 g) (R1 g) []) e l B R F (some x) r:=by
 intro hm a w' hf hp
 have hx:x=r:=by grind
 have:∃ v,(results fn a.tmps).run P w'=.ok v w'∧∃ g:γ,Ending.returned v=.returned (V g)∧Hp M0 w w' (B1 g) (R1 g) [] :=
  ⟨v,hres a w' hf hp,g,by grind,hp.pick (hB hx) (hR hx) (by simp)⟩
 rcases he with rfl | rfl
 ·exact ⟨hf.defers,this⟩
 ·exact ⟨hf.defers,this⟩
inductive ResOk (P:Program) (l:Env) (B:List BlkD):List ResultVar→List Value→Prop
 | nil:ResOk P l B [] []
 | tmp {t:Tmp} {v:Value} {rs:List ResultVar} {vs:List Value} (h:look l t=some v) (hr:ResOk P l B rs vs):ResOk P l B (.tmp t::rs) (v::vs)
 | cell {t:Tmp} {ty e:TypeId} {agg:Bool} {z:Value} {size bytes i g o:Nat} {cs:List Value} {V:Value} {rs:List ResultVar} {vs:List Value} (hx:look l t=some (.pointer (some ⟨g,o,none⟩))) (hT:TyF P ty agg z size bytes)
   (hB:B[i]?=some ⟨g,e,cs⟩) (hl:((cs.drop o).take size).length=size) (hs:agg=false→size=1) (hV:(if agg then .agg ((cs.drop o).take size).toArray else ((cs.drop o).take size).getD 0 undef)=V)
   (hr:ResOk P l B rs vs):ResOk P l B (.cell t ty::rs) (V::vs)
theorem qtR {rs:List ResultVar}(h:ResOk P l B rs vs){w:World}(hf:Fr n D a l)(hb:∀ b∈B,b.is w) :
  (rs.mapM (fun | .tmp t=>pure (a.tmps.getD t undef) | .cell x t=>do loadVar t (← asAddr (a.tmps.getD x undef))):Sem (List Value)).run P w=.ok vs w:=by
 induction h with
 | nil=>rfl
 | @tmp t v rs vs h _ ih =>
  have e1:=hf.val _ _ h
  simp_all
 | @cell t ty e agg z size bytes i g o cs V rs vs hx hT hB hl hs hV _ ih =>
  have e1:=hf.val _ _ hx
  have hb1:=hb _ (qBe hB)
  have hc:ve g o ((cs.drop o).take size) w:=by
   intro j u hj
   have hlt:j<size:=by grind
   rw[qCd hlt,qCz] at hj
   have hb':w.heap[g]?=some (.cells cs.toArray e (0,0)):=hb1
   grind [World.cell?]
  have hr:=qar hT hc hl hV.symm hs
  simp only[List.mapM_cons]
  generalize (rs.mapM (fun | .tmp t=>pure (a.tmps.getD t undef) | .cell x t=>do loadVar t (← asAddr (a.tmps.getD x undef))):Sem (List Value))=q at ih
  simp[Array.getD_eq_getD_getElem?,e1,asAddr,hr,ih]
theorem resL {rs:List ResultVar}(hfn:fn.results=rs.toArray)(h:ResOk P l B rs vs){w:World}{v:Value}(hv:(match vs with | [v]=>v | _=>.tuple vs.toArray)=v):∀ a w',Fr n [] a l→Hp M0 w w' B R F→(results fn a.tmps).run P w'=.ok v w':=by
 intro a w' hf hp
 have hr:=qtR h hf hp.blk
 have key:results fn a.tmps=(do
   let vs ← (Functor.map List.toArray (rs.mapM (fun | .tmp t=>pure (a.tmps.getD t undef) | .cell x t=>do loadVar t (← asAddr (a.tmps.getD x undef))):Sem (List Value)):Sem (Array Value))
   pure (if h:vs.size=1 then vs[0] else .tuple vs)):=by
  unfold results
  rw[hfn,Array.mapM_eq_mapM_toList]
  rfl
 rw[key]
 subst hv
 generalize (rs.mapM (fun | .tmp t=>pure (a.tmps.getD t undef) | .cell x t=>do loadVar t (← asAddr (a.tmps.getD x undef))):Sem (List Value))=q at hr
 simp only[map_eq_pure_bind,bind_assoc,pure_bind]
 simp[hr]
 match vs with
 | []=>rfl
 | [v]=>rfl
 | v::u::r=>simp
def lbnd {α σ ρ:Type}(m:Option (α ⊕ σ))(k:α→Option ρ)(kl:σ→Option ρ):Option ρ:=m.bind fun x=>match x with | .inl y=>k y | .inr z=>kl z
def PostL (ch:List PanicEntry)(M:List Nat)(w:World){α σ γ:Type}(V:α→γ→Value)(B1:α→γ→List BlkD)(R1:α→γ→List RowD)(BL:σ→List BlkD):α ⊕ σ→Ending→World→Prop
 | .inl y,e,w'=>∃ g:γ,e=.returned (V y g)∧Hp M w w' (B1 y g) (R1 y g) []
 | .inr z,e,w'=>e=.panicked ch∧Hp M w w' (BL z) [] []
def PureL (P:Program)(f:FuncId)(vs:List Value)(B0:List BlkD)(R0:List RowD)(Φ:List (World→Prop))(ch:List PanicEntry){α σ:Type}(γ:Type)(V:α→γ→Value)(B1:α→γ→List BlkD)(R1:α→γ→List RowD)(BL:σ→List BlkD)(r:α ⊕ σ):Prop :=
 ∀ w,Hp (muts B0 R0) w w B0 R0 Φ→Calls P f vs.toArray w (PostL ch (muts B0 R0) w V B1 R1 BL r)
theorem qmp {w:World}(hw:Region.wanted o (yielded ops a.tmps)=true)(hc:∀ c,o.op≠.defer c)(hr:(execOp a.eval o).run P w=.ok (.enter f args) w)(h:Calls P f args w fun e w'=>match e with
   | .returned v=>kA ro P ops Q rest (a.put o.dst v) w'
   | .panicked chain=>Q (.panic chain) a w'
   | .outgrown=>False):kA ro P ops Q (o::rest) a w:=by
 refine qdH hw hc ?_
 rw[hr]
 refine ⟨fun hd=>by simp[Wd] at hd,?_⟩
 have h':=(callsIn_wide (n:=0)).2 (h.mono (R':=fun
   | .returned v,w''=>kA ro P ops Q rest (a.put o.dst v) w''
   | .panicked chain,w''=>Q (.panic chain) a w''
   | .outgrown,_=>LetsOut Q) fun e w' hk=>by grind)
 exact h'
theorem yi {γ:Type}{mg:Option (α ⊕ σ)}{k:α→Option ρ}{kl:σ→Option ρ}{xs:Array Operand}{V:α→γ→Value}{B1:α→γ→List BlkD}{R1:α→γ→List RowD}(he:Enters P f)(hw:wants ops l ⟨some d,.call ⟨.value (.func f),xs,tys⟩,t,pos,af,gd⟩=some true)(hx:evArgs l xs.toList=some vs)(hd:Nat.blt d n=true)(hC:∀ y,mg=some y→PureL P f vs B0 R0 Φ ch γ V B1 R1 BL y)(hB:Takes B B0 BS)(hR:Takes R R0 RS)(ha:ArgsM RS F Φ)(hl:∀ z,mg=some (.inr z)→SXQ n D M0 w0 Q (.panic ch) l (BL z++BS) RS F (kl z) r)(h:∀ y,mg=some (.inl y)→∀ g,SXO P ro n D M0 w0 Q ops rest ((d,V y g)::l) (B1 y g++BS) (R1 y g++RS) F (k y) r) :
  SXO P ro n D M0 w0 Q ops (⟨some d,.call ⟨.value (.func f),xs,tys⟩,t,pos,af,gd⟩::rest) l B R F (lbnd mg k kl) r:=by
 intro hm a w hf hp
 have hp':=hp.perm hB.perm hR.perm
 cases hq:mg with
 | none=>grind [lbnd]
 | some y =>
  refine qmp (zo hf hw) (yV hw) (qlG hf he hx) ((hC y hq w (hp'.startM (ha.ok hp'))).mono fun e w' hP=>?_)
  rw[hq] at hm
  cases y with
  | inl y =>
   have hm':k y=some r:=by simpa[lbnd] using hm
   obtain ⟨g,rfl,h2⟩:=hP
   exact h y hq g hm' _ _ (hf.put hd _) (hp'.callM h2)
  | inr z =>
   have hm':kl z=some r:=by simpa[lbnd] using hm
   obtain ⟨rfl,h2⟩:=hP
   have h3:=hp'.callM h2
   exact hl z hq hm' _ _ hf (by grind)
theorem qun {K:Act→World→Prop}(h:SXQ n D M0 w0 Q (.panic ch) l B R F m r):SXQ n D M0 w0 (Exit.then K Q) (.panic ch) l B R F m r:=h
theorem qw2 {id:Nat}(h:SXQ n D M0 w0 Q (.panic ch) l B R F m r):SXQ n D M0 w0 (Exit.inBlock id Q) (.panic ch) l B R F m r:=h
theorem qhF {c:Code}{γ:Type}{V:α→γ→Value}{B1:α→γ→List BlkD}{R1:α→γ→List RowD}{m:Option (α ⊕ σ)}{r:α ⊕ σ}(hfn:P.funcs[f]?=some fn)(hb:fn.body=some c)(hn:fn.ntmps=N)(hvl:Nat.ble vs.length N=true)(hm:m=some r)(h:∀ w,SXC P none N [] (muts B0 R0) w (bodyPost P fn (PostL ch (muts B0 R0) w V B1 R1 BL r)) c (vs.zipIdx.map fun p=>(p.2,p.1)) B0 R0 Φ m r):PureL P f vs B0 R0 Φ ch γ V B1 R1 BL r:=by
 intro w hp
 refine calls_of_wp hfn hb (qhx.1 (h w hm _ w ?_ hp))
 have hvl':vs.length≤N:=by simp_all
 refine ⟨rfl,by simp_all,fun i v hv=>?_⟩
 have key:∀ (vs:List Value) (k i:Nat) (v:Value),look ((vs.zipIdx k).map fun p=>(p.2,p.1)) i=some v→k≤i∧vs[i-k]?=some v:=by
  intro vs
  induction vs with
  | nil=>intro k i v hv;simp[look] at hv
  | cons u vs ih =>
   intro k i v hv
   simp only[qCu,qBU] at hv
   rw[qag] at hv
   split at hv
   ·simp_all
   grind
 grind
theorem qdM {γ:Type}{V:α→γ→Value}{B1:α→γ→List BlkD}{R1:α→γ→List RowD}{r:α ⊕ σ}{w:World}{x:α}{e:Exit}(g:γ){v:Value}(he:e=.ret∨e=.normal)(hres:∀ a w',Fr n [] a l→Hp M0 w w' B R F→(results fn a.tmps).run P w'=.ok v w')(hv:v=V x g)(hB:Pick B (B1 x g))(hR:Pick R (R1 x g)) :
  SXQ n [] M0 w (bodyPost P fn (PostL ch M0 w V B1 R1 BL r)) e l B R F (some (.inl x)) r:=by
 intro hm a w' hf hp
 have hx:Sum.inl x=r:=by grind
 subst hx
 have:∃ v,(results fn a.tmps).run P w'=.ok v w'∧PostL ch M0 w V B1 R1 BL (.inl x) (.returned v) w' :=
  ⟨v,hres a w' hf hp,g,by rw[hv],hp.pick hB hR (by simp)⟩
 rcases he with rfl | rfl
 ·exact ⟨hf.defers,this⟩
 ·exact ⟨hf.defers,this⟩
theorem qkd {γ:Type}{V:α→γ→Value}{B1:α→γ→List BlkD}{R1:α→γ→List RowD}{r:α ⊕ σ}{w:World}{z:σ}(hB:Pick B (BL z)) :
  SXQ n [] M0 w (bodyPost P fn (PostL ch M0 w V B1 R1 BL r)) (.panic ch) l B R F (some (.inr z)) r:=by
 intro hm a w' hf hp
 have hx:Sum.inr z=r:=by grind
 subst hx
 exact ⟨hf.defers,rfl,hp.pick hB .nil (by simp)⟩
theorem qul {v:Value}(hw:wants ops l ⟨dst,.panic x,t,pos,af,gd⟩=some true)(hx:ev l x=some (.iface T v))(h:SXQ n D M0 w0 Q (.panic [{ v:=.iface T v,recovered:=false }]) l B R F m r):SXO P ro n D M0 w0 Q ops (⟨dst,.panic x,t,pos,af,gd⟩::rest) l B R F m r:=by
 intro hm a w hf hp
 refine qdH (zo hf hw) (yV hw) ?_
 have h1:(execOp a.eval ⟨dst,.panic x,t,pos,af,gd⟩).run P w=.halt (.panic (.iface T v)) w:=by
  have h1:=hf.ev hx
  generalize a.eval=ε at h1 ⊢
  have h2:(Instr.panic (.iface T v)).run P w=.halt (.panic (.iface T v)) w:=rfl
  simp[execOp,h1,h2]
 rw[h1]
 exact h hm a w hf hp
variable {w:World}
theorem Keeps.putObj (g:Nat)(o:Obj):Keeps [g] w (w.putObj g o) :=
 ⟨rfl,rfl,rfl,by simp,fun k _ hn=>World.putObj_heap_other (by simp_all),fun _=>qBo _⟩
theorem Hp.setObj {b:BlkD}(h:Hp M0 w0 w B R F)(hi:B[i]?=some b)(o:Obj):Hp M0 w0 (w.putObj b.g o) (B.set i (blkO b.g o)) R F:=by
 have hm:b∈B:=qBe hi
 have hgm:b.g∈muts B R:=qBg.2 (.inl (qBI.2 ⟨_,hm,rfl⟩))
 have hlt:=h.lt _ hgm
 have hk:=Keeps.putObj (w:=w) b.g o
 have hmu:=qjl (R:=R) (b':=blkO b.g o) hi rfl
 refine h.turn [b.g] hk (by simp_all) (fun b' hb=>?_) (fun r hr=>ja (h.rows r hr) hk fun g' hg'=>?_) (hmu▸h.nodup) (fun k hk=>.inl (hmu▸hk))
 ·obtain ⟨j,hj⟩:=List.getElem?_of_mem hb
  rw[List.getElem?_set] at hj
  split at hj
  ·split at hj
   ·simp at hj;subst hj
    exact World.putObj_heap_same hlt
   simp_all
  ·rename_i hij
   refine qbI (h.blk b' (qBe hj)) hk (fun hg=>?_)
   simp only[qBr] at hg
   exact hij (qmV h.nodup hi hj hg.symm)
 ·intro hgg
  simp only[qBr] at hgg
  have hnd:=(qBV.1 h.nodup).2.2
  exact hnd b.g (qBI.2 ⟨_,hm,rfl⟩) g' (qB1.2 ⟨r,hr,hg'⟩) hgg.symm
theorem Hp.allocO (h:Hp M0 w0 w B R F)(o:Obj):Hp M0 w0 (w.alloc o) (blkO w.heap.size o::B) R F:=by
 have hk:=Keeps.alloc [] w o
 refine h.turn [] hk (by simp) (fun b hb=>?_) (fun r hr=>ja (h.rows r hr) hk (by simp)) ?_ ?_
 ·rcases qBi.1 hb with rfl | hb
  ·exact heap_alloc_new w _
  ·exact qbI (h.blk b hb) hk (by simp)
 ·simp only[muts,qBU,qB2,List.nodup_cons]
  exact ⟨fun hm=>by have:=h.lt _ hm;omega,h.nodup⟩
 ·intro g hg
  simp only[muts,qBU,qB2,qBi] at hg
  rcases hg with rfl | hg
  ·omega
  ·exact .inl hg
theorem Hp.facts {F':List (World→Prop)}(h:Hp M0 w0 w B R F)(hF:∀ φ∈F',Nec w (muts B R) φ):Hp M0 w0 w B R F' :=
 { keep:=h.keep,blk:=h.blk,rows:=h.rows,nodup:=h.nodup,fresh:=h.fresh,per:=hF }
def mark (k:Nat):Deferred:={ target:=.collected k,args:=#[] }
abbrev dblk (k:Nat):BlkD:=blkO k (.deferred (some []))
theorem qn7 {tmps:Array Value}{Rp:Ending→World→Prop}{v:Value}:∀ (Ds:List Nat) (w:World) (B:List BlkD),Hp M0 w0 w (Ds.map dblk++B) R F →
  (∀ w',Hp M0 w0 w' B R F→(results fn tmps).run P w'=.ok v w'∧Rp (.returned v) w')→LeavesInM (Wd none) 0 P fn tmps Rp (Ds.map mark) .returning w:=by
 intro Ds
 induction Ds with
 | nil=>intro w B hp h;obtain ⟨h1,h2⟩:=h w hp;exact ⟨v,h1,h2⟩
 | cons k Ds ih =>
  intro w B hp h
  have hb:w.heap[k]?=some (.deferred (some [])):=hp.blk (dblk k) (by simp)
  refine ⟨by simp,.inl ⟨k,_,rfl,run_takeDeferred hb,ih _ B ?_ h⟩⟩
  exact (hp.setObj (i:=0) (b:=dblk k) rfl (.deferred none)).weaken (by simp) (qBE _) (fun φ h=>h)
theorem jd {γ:Type}{V:γ→Value}{B1:γ→List BlkD}{R1:γ→List RowD}{x:ρ}{e:Exit}(Ds:List Nat)(g:γ){v:Value}(he:e=.ret∨e=.normal)(hD:D=Ds.map mark)(hT:Takes B (Ds.map dblk) B')(hres:∀ a w',Fr n [] a l→Hp M0 w w' B' R F→(results fn a.tmps).run P w'=.ok v w')(hv:x=r→v=V g)(hB:x=r→Pick B' (B1 g))(hR:x=r→Pick R (R1 g)) :
  SXQ n D M0 w (bodyPostM (Wd none) 0 P fn fun e w'=>∃ g:γ,e=.returned (V g)∧Hp M0 w w' (B1 g) (R1 g) []) e l B R F (some x) r:=by
 intro hm a w' hf hp
 have hx:x=r:=by grind
 have:LeavesInM (Wd none) 0 P fn a.tmps (fun e w'=>∃ g:γ,e=.returned (V g)∧Hp M0 w w' (B1 g) (R1 g) []) a.defers .returning w':=by
  rw[hf.defers,hD]
  refine qn7 (v:=v) (R:=R) (F:=F) Ds w' B' (hp.perm hT.perm (qBF _)) fun w2 hp2=>⟨?_,g,by grind,hp2.pick (hB hx) (hR hx) (by simp)⟩
  exact hres { tmps:=a.tmps,defers:=[] } w2 ⟨rfl,hf.size,hf.val⟩ hp2
 rcases he with rfl | rfl
 ·exact this
 ·exact this
theorem qxK (hn:fn.ntmps=N)(hvl:Nat.ble vs.length N=true):Fr N [] { tmps:=vs.toArray++Array.replicate (fn.ntmps-vs.toArray.size) undef,defers:=[] } (vs.zipIdx.map fun p=>(p.2,p.1)):=by
 have hvl':vs.length≤N:=by simp_all
 refine ⟨rfl,by simp_all,fun i v hv=>?_⟩
 have key:∀ (vs:List Value) (k i:Nat) (v:Value),look ((vs.zipIdx k).map fun p=>(p.2,p.1)) i=some v→k≤i∧vs[i-k]?=some v:=by
  intro vs
  induction vs with
  | nil=>intro k i v hv;simp[look] at hv
  | cons u vs ih =>
   intro k i v hv
   simp only[qCu,qBU] at hv
   rw[qag] at hv
   split at hv
   ·simp_all
   grind
 grind
theorem qdm {c:Code}{γ:Type}{V:γ→Value}{B1:γ→List BlkD}{R1:γ→List RowD}(hfn:P.funcs[f]?=some fn)(hb:fn.body=some c)(hn:fn.ntmps=N)(hvl:Nat.ble vs.length N=true)(hm:m=some r)(h:∀ w,SXC P none N [] (muts B0 R0) w (bodyPostM (Wd none) 0 P fn fun e w'=>∃ g:γ,e=.returned (V g)∧Hp (muts B0 R0) w w' (B1 g) (R1 g) []) c (vs.zipIdx.map fun p=>(p.2,p.1)) B0 R0 Φ m r):PureM P f vs B0 R0 Φ γ V B1 R1:=by
 intro w hp
 refine (callsIn_wide (n:=0)).1 (callsIn_of_wp_marks hfn hb trivial (h w hm _ w ?_ hp))
 exact qxK hn hvl
structure Rounds (σ τ:Type) where
 γ:Type
 δ:Type
 IB:σ→γ→List BlkD
 IR:σ→γ→List RowD
 XB:τ→δ→List BlkD
 XR:τ→δ→List RowD
 F:World→Prop
abbrev Rounds.G {σ τ:Type} (J:Rounds σ τ):σ ⊕ τ→Type
 | .inl _=>J.γ
 | .inr _=>J.δ
abbrev Rounds.bs {σ τ:Type} (J:Rounds σ τ):(z:σ ⊕ τ)→J.G z→List BlkD
 | .inl s=>fun g=>J.IB s g
 | .inr t=>fun g=>J.XB t g
abbrev Rounds.rs {σ τ:Type} (J:Rounds σ τ):(z:σ ⊕ τ)→J.G z→List RowD
 | .inl s=>fun g=>J.IR s g
 | .inr t=>fun g=>J.XR t g
def YieldC {σ τ α:Type}(P:Program)(L:Nat)(encs:α→List Value)(J:Rounds σ τ)(y:σ→α→Option (σ ⊕ τ)):Prop :=
 ∀ s x r,y s x=some r→∀ (g:J.γ) w,Hp (muts (J.IB s g) (J.IR s g)) w w (J.IB s g) (J.IR s g) [J.F] →
  YieldAt (Wd none) 0 P L (encs x).toArray w fun e w'=>e=.returned (.bool r.isLeft)∧∃ g',Hp (muts (J.IB s g) (J.IR s g)) w w' (J.bs r g') (J.rs r g') []
theorem qmZ {α:Type}:∀ {R:List α},Pick R R
 | []=>.nil
 | _::_=>.cons 0 rfl qmZ
theorem qe {α:Type}:∀ {R S:List α} (i:Nat),R.drop i=S→Pick R S
 | _,_,0,rfl=>qmZ
 | [],_,i+1,h=>by simp at h;subst h;exact .nil
 | a::R,S,i+1,h=>by
  have h1:Pick R S:=qe i (by grind)
  have key:∀ {R S:List α} {a:α},Pick R S→Pick (a::R) S:=by
   intro R S a h
   induction h generalizing a with
   | nil=>exact .nil
   | cons i h _ ih=>exact .cons (i+1) (by grind) (by grind)
  simp_all
theorem jc {τ:Type}{J:Rounds σ τ}{x z:σ ⊕ τ}{e:Exit}{v:Value}(g:J.G x)(he:e=.ret∨e=.normal)(hres:∀ a w',Fr n [] a l→Hp M0 w w' B R F→(results fn a.tmps).run P w'=.ok v w')(hB:Pick B (B0++J.bs x g))(hR:Pick R (J.rs x g)) :
  SXQ n [] M0 w (bodyPost P fn fun e w'=>∃ g:J.G z,e=.returned v∧Hp M0 w w' (B0++J.bs z g) (J.rs z g) []) e l B R F (some x) z:=by
 intro hm a w' hf hp
 obtain rfl:x=z:=by grind
 have:∃ v',(results fn a.tmps).run P w'=.ok v' w'∧∃ g:J.G x,Ending.returned v'=.returned v∧Hp M0 w w' (B0++J.bs x g) (J.rs x g) [] :=
  ⟨v,hres a w' hf hp,g,rfl,hp.pick hB hR (by simp)⟩
 rcases he with rfl | rfl
 ·exact ⟨hf.defers,this⟩
 ·exact ⟨hf.defers,this⟩
theorem qe4 {τ:Type}{encs:α→List Value}{J:Rounds σ τ}{y:σ→α→Option (σ ⊕ τ)}{L:Nat}(hY:YieldC P L encs J y)(s:σ)(x:α)(g:J.γ){xs:Array Operand}{B1:List BlkD}{R1:List RowD}{k1:σ→Option ρ}{k2:τ→Option ρ}(hw:wants ops l ⟨some d,.call ⟨.value x0,xs,tys⟩,t,pos,af,gd⟩=some true)(h0:ev l x0=some (.func (.yield L) #[] #[]))(hx:evArgs l xs.toList=some (encs x))(hd:Nat.blt d n=true)(hB:B=B1++J.IB s g)(hR:R=R1++J.IR s g)(hF:F[j]?=some J.F)(h1:∀ s',y s x=some (.inl s')→∀ g',SXO P ro n D M0 w0 Q ops rest ((d,.bool true)::l) (B1++J.IB s' g') (R1++J.IR s' g') F (k1 s') r)(h2:∀ t,y s x=some (.inr t)→∀ g',SXO P ro n D M0 w0 Q ops rest ((d,.bool false)::l) (B1++J.XB t g') (R1++J.XR t g') F (k2 t) r) :
  SXO P ro n D M0 w0 Q ops (⟨some d,.call ⟨.value x0,xs,tys⟩,t,pos,af,gd⟩::rest) l B R F ((y s x).bind (Sum.elim k1 k2)) r:=by
 intro hm a w hf hp
 cases hq:y s x with
 | none=>simp_all
 | some z =>
  rw[hq] at hm
  have hm':Sum.elim k1 k2 z=some r:=by grind
  subst hB hR
  have hp':=hp.perm (qCb) (qCb)
  have hst:Hp (muts (J.IB s g) (J.IR s g)) w w (J.IB s g) (J.IR s g) [J.F]:=by
   refine hp'.startM fun φ hφ=>?_
   simp only[qBr] at hφ
   subst hφ
   exact (hp'.per _ (qBe hF)).less fun k hk=>qgy.mem_iff.2 (qBg.2 (.inl hk))
  obtain ⟨fn,tmps,asg,body,hrun,hR2⟩:=hY s x z hq g w hst
  have hrun2:(execOp a.eval ⟨some d,.call ⟨.value x0,xs,tys⟩,t,pos,af,gd⟩).run P w=.ok (.round L fn tmps asg body) w:=by
   have e1:=hf.ev h0
   have e2:=hf.evArgs hx
   have e3:xs.map a.eval=(encs x).toArray:=by grind
   grind [execOp,resolve,Deferred.ofValue,invoke]
  refine qdH (zo hf hw) (yV hw) ?_
  rw[hrun2]
  refine ⟨fun hd=>by simp[Wd] at hd,?_⟩
  refine RoundIn.mono (show RoundIn (Wd ro) 0 P L fn tmps asg body w _ from hR2) ?_
  rintro e w' ⟨rfl,g',hp2⟩
  have hp3:=(hp'.callM hp2).perm (qCb) (qCb)
  cases z with
  | inl s'=>exact h1 s' hq g' hm' _ _ (hf.put hd _) hp3
  | inr u=>exact h2 u hq g' hm' _ _ (hf.put hd _) hp3
abbrev rdy (rc:Loop):Loop:={ rc with state:=.ready,pending:=none }
abbrev bsy (rc:Loop):Loop:={ rc with state:=.busy,pending:=none }
abbrev don (rc:Loop) (c:Code):Loop:={ rc with state:=.done,pending:=some c }
abbrev rnds {σ τ γ δ:Type} (IB:σ→γ→List BlkD) (IR:σ→γ→List RowD) (XB:τ→δ→List BlkD) (XR:τ→δ→List RowD) (jump:τ→Code) (F:List (World→Prop)) (rc:Loop) (L Dk:Nat):Rounds σ τ where
 γ:=γ
 δ:=δ
 IB:=fun s g=>IB s g++[blkO L (.loop (rdy rc)),dblk Dk]
 IR:=IR
 XB:=fun t g=>XB t g++[blkO L (.loop (don rc (jump t))),dblk Dk]
 XR:=XR
 F:=fun w=>∀ φ∈F,φ w
def qsT (P:Program){σ τ:Type}(J:Rounds σ τ)(L:Nat)(M:List Nat)(w:World)(z:σ ⊕ τ):Exit→Act→World→Prop :=
 roundPost P L (fun e w'=>e=.returned (.bool z.isLeft)∧∃ g',Hp M w w' (J.bs z g') (J.rs z g') [])
theorem qhZ {L:Nat}{rc:Loop}{body:Code}(hB:B[i]?=some (blkO L (.loop (rdy rc))))(h:SXC P (some L) n [] M0 w0 Q body l (B.set i (blkO L (.loop (bsy rc)))) R F m r) :
  SXQ n [] M0 w0 (Exit.then (fun a1 w1=>∃ w2,(Instr.beginRound L).run P w1=.ok () w2∧gwp (some L) P body Q a1 w2) (fun _ _ _=>False)) .normal l B R F m r:=by
 intro hm a w hf hp
 have hb:w.heap[L]?=some (.loop (rdy rc)):=hp.blk (blkO L (.loop (rdy rc))) (qBe hB)
 exact ⟨_,run_beginRound hb rfl,h hm _ _ hf (hp.setObj hB (.loop (bsy rc)))⟩
def jumpOf:Exit→Option Code
 | .ret=>some .ret
 | .exit id=>some (.exit id)
 | _=>none
def isJump:Exit→Bool
 | .ret=>true
 | .exit _=>true
 | .normal=>true
 | _=>false
theorem vn {τ:Type}{J:Rounds σ τ}{L:Nat}{rc:Loop}{x z:σ ⊕ τ}{e:Exit}(he:isJump e=true)(hT:Takes B [blkO L (.loop (bsy rc))] B')(hl:x.isLeft=(jumpOf e).isNone)(g':J.G x)(hB:Pick (blkO L (.loop { rc with state:=if (jumpOf e).isNone then .ready else .done,pending:=jumpOf e })::B') (J.bs x g'))(hR:Pick R (J.rs x g')) :
  SXQ n [] M0 w0 (qsT P J L M0 w0 z) e l B R F (some x) z:=by
 intro hm a w hf hp
 obtain rfl:x=z:=by grind
 have hp':=hp.perm hT.perm (qBF _)
 have hb:w.heap[L]?=some (.loop (bsy rc)):=hp'.blk (blkO L (.loop (bsy rc))) (by simp)
 have h2:=(hp'.setObj (i:=0) (b:=blkO L (.loop (bsy rc))) rfl (.loop { rc with state:=if (jumpOf e).isNone then .ready else .done,pending:=jumpOf e })).pick hB hR (F':=[]) (by simp)
 have key:∃ v w',(Instr.endRound L (jumpOf e)).run P w=.ok v w'∧(Ending.returned v=.returned (.bool x.isLeft)∧∃ g',Hp M0 w0 w' (J.bs x g') (J.rs x g') []) :=
  ⟨_,_,run_endRound (jumpOf e) hb,by rw[hl],g',h2⟩
 cases e <;> first | exact key | cases he
theorem qtF {xs:List (Tmp×Value)}:∀ {a:Array Value} {l:Env},(∀ p∈xs,p.1<n)→Fr n [] { tmps:=a,defers:=[] } l→Fr n [] { tmps:=xs.foldl (fun t (p,v)=>t.setIfInBounds p v) a,defers:=[] } (xs.foldl (fun l p=>(p.1,p.2)::l) l):=by
 induction xs with
 | nil=>simp
 | cons x xs ih =>
  intro a l hn h
  obtain ⟨p,v⟩:=x
  refine ih (fun q hq=>hn q (qBt _ hq)) ?_
  have hp:=hn (p,v) (by simp)
  have:=h.put (d:=p) (v:=v) (by simpa using hp)
  exact this
theorem qbW {τ γ δ:Type}{encs:α→List Value}{y:σ→α→Option (σ ⊕ τ)}{gop:Operand}{ps:Array Tmp}{assign body:Code}{gf:FuncId}{lb:List Value}{mi:Option (σ ⊕ τ)}{k1:σ→Option ρ}{k2:τ→Option ρ}(IB:σ→γ→List BlkD)(IR:σ→γ→List RowD)(XB:τ→δ→List BlkD)(XR:τ→δ→List RowD)(jump:τ→Code)(s0:σ)(g0:γ)(hg:ev l gop=some (.func (.func gf) #[] lb.toArray))(he:Enters P gf)(hps:∀ x,(encs x).length=ps.size)(hpn:ps.toList.all (fun p=>Nat.blt p n)=true)(hB0:Takes B B0 B')(hB1:Takes B' (IB s0 g0) BS)(hR:Takes R (IR s0 g0) RS)(hΦ:ArgsM RS F Φ)(hC:∀ z,mi=some z→∀ rc L Dk,YieldC P L encs (rnds IB IR XB XR jump F rc L Dk) y →
   PureM P gf (.func (.yield L) #[] #[]::lb) (B0++(rnds IB IR XB XR jump F rc L Dk).IB s0 g0) (IR s0 g0) ((rnds IB IR XB XR jump F rc L Dk).F::Φ) ((rnds IB IR XB XR jump F rc L Dk).G z) (fun _=>.tuple #[])
    (fun g=>B0++(rnds IB IR XB XR jump F rc L Dk).bs z g) (fun g=>(rnds IB IR XB XR jump F rc L Dk).rs z g))(hbody:∀ rc L Dk s g x z w M,M=muts (IB s g++[blkO L (.loop (rdy rc)),dblk Dk]) (IR s g) →
   SXC P (some L) n [] M w (Exit.then (fun a1 w1=>∃ w2,(Instr.beginRound L).run P w1=.ok () w2∧gwp (some L) P body (qsT P (rnds IB IR XB XR jump F rc L Dk) L M w z) a1 w2) (fun _ _ _=>False))
    assign ((ps.toList.zip (encs x)).foldl (fun l p=>(p.1,p.2)::l) l) (IB s g++[blkO L (.loop (rdy rc)),dblk Dk]) (IR s g) F (y s x) z)(hdone:∀ s,mi=some (.inl s)→∀ g Dk,SXQ n (mark Dk::D) M0 w0 Q .normal l (dblk Dk::(B0++(IB s g++BS))) (IR s g++RS) F (k1 s) r)(hstop:∀ t,mi=some (.inr t)→∀ g Dk,SXC P none n (mark Dk::D) M0 w0 Q (jump t) l (dblk Dk::(B0++(XB t g++BS))) (XR t g++RS) F (k2 t) r) :
  SXC P none n D M0 w0 Q (.rangeFunc gop ps assign body) l B R F (mi.bind (Sum.elim k1 k2)) r:=by
 intro hm a w hf hp
 cases hq:mi with
 | none=>simp_all
 | some z =>
 rw[hq] at hm
 have hm':Sum.elim k1 k2 z=some r:=by grind
 refine wpIn_rangeFunc ?_
 intro fn _
 obtain ⟨rc,hrc⟩:∃ rc:Loop,rc={ state:=.ready,pending:=none,fn,tmps:=a.tmps,params:=ps,assign,body,defers:=w.heap.size }:=⟨_,rfl⟩
 obtain ⟨L,hL⟩:∃ L,L=w.heap.size+1:=⟨_,rfl⟩
 obtain ⟨Dk,hDk⟩:∃ Dk,Dk=w.heap.size:=⟨_,rfl⟩
 obtain ⟨W1,hW1⟩:∃ W1,(w.alloc (.deferred (some []))).alloc (.loop (rdy rc))=W1:=⟨_,rfl⟩
 have hp1:Hp M0 w0 W1 (blkO L (.loop (rdy rc))::dblk Dk::B) R F:=by
  rw[← hW1]
  have:=(hp.allocO (.deferred (some []))).allocO (.loop (rdy rc))
  simp_all
 have hp2:Hp M0 w0 W1 ((B0++(IB s0 g0++[blkO L (.loop (rdy rc)),dblk Dk]))++BS) (IR s0 g0++RS) F:=by
  refine hp1.perm ?_ hR.perm
  refine (qDd [_,_] (hB0.perm.trans (qDd _ hB1.perm))).trans ?_
  grind [qC8,qCb]
 have hY:YieldC P L encs (rnds IB IR XB XR jump F rc L Dk) y:=by
  intro s x z hz g w1 hp
  have hb:w1.heap[L]?=some (.loop (rdy rc)):=hp.blk (blkO L (.loop (rdy rc))) (by simp)
  have hy:=run_yield (P:=P) (args:=(encs x).toArray) hb (by simp_all)
  refine ⟨_,_,_,_,hy,roundIn_of_wpIn trivial ?_⟩
  have hfacts:Hp (muts (IB s g++[blkO L (.loop (rdy rc)),dblk Dk]) (IR s g)) w1 w1 (IB s g++[blkO L (.loop (rdy rc)),dblk Dk]) (IR s g) F:=hp.facts fun φ hφ w' hk=>hp.per _ (qBr.2 rfl) w' hk φ hφ
  have hfr:Fr n [] { tmps:=((rdy rc).params.zip (encs x).toArray).foldl (fun tmps (t,a)=>tmps.setIfInBounds t a) (rdy rc).tmps,defers:=[] } ((ps.toList.zip (encs x)).foldl (fun l p=>(p.1,p.2)::l) l):=by
   have h0:Fr n [] { tmps:=a.tmps,defers:=[] } l:=⟨rfl,hf.size,hf.val⟩
   have h1:=qtF (xs:=ps.toList.zip (encs x)) (fun p hp=>by
    have:=(List.of_mem_zip hp).1
    rw[qBQ] at hpn
    simp_all) h0
   rw[hrc]
   have h2:(ps.zip (encs x).toArray).foldl (fun tmps (t,a)=>tmps.setIfInBounds t a) a.tmps=(ps.toList.zip (encs x)).foldl (fun tmps (t,a)=>tmps.setIfInBounds t a) a.tmps:=by
    rw[← Array.foldl_toList]
    simp
   simp_all
  have:=hbody rc L Dk s g x z w1 _ rfl hz _ w1 hfr hfacts
  rw[hrc] at this ⊢
  exact this
 have hrun:=hC z hq rc L Dk hY W1 (hp2.startM fun φ hφ=>by
  rcases qBi.1 hφ with rfl | hφ
  ·intro w' hk φ hφ
   exact ((hp2.per _ hφ).less fun k hk=>qgy.mem_iff.2 (qBg.2 (.inl hk))) w' hk
  ·exact hΦ.ok hp2 φ hφ)
 refine ⟨L,[mark Dk],W1,{ target:=.fn (.func gf) lb.toArray,args:=#[.func (.yield L) #[] #[]] },W1,gf,#[.func (.yield L) #[] #[]]++lb.toArray,W1,?_,?_,fun _ _=>trivial,?_,fun h=>by simp[Wd] at h,?_⟩
 ·rw[← hW1,hrc,hL,hDk];exact run_enterLoop_outer _ _ _ _ _
 ·have e1:=hf.ev hg
  simp only[resolve,e1]
  simp[go_sem]
 ·simp[invoke,go_sem]
  exact he _ W1
 ·refine callsIn_wide.2 ?_
  have harr:(.func (.yield L) #[] #[]::lb:List Value).toArray=#[.func (.yield L) #[] #[]]++lb.toArray:=by simp
  rw[← harr]
  refine hrun.mono ?_
  rintro e w' ⟨g',rfl,hpe⟩
  have hp3:=hp2.callM hpe
  have hfr:Fr n (mark Dk::D) { a with defers:=[mark Dk]++a.defers } l:=⟨by simp[hf.defers],hf.size,hf.val⟩
  cases z with
  | inl s =>
   have hb:w'.heap[L]?=some (.loop (rdy rc)):=hp3.blk (blkO L (.loop (rdy rc))) (qBg.2 (.inl (qBg.2 (.inr (qBg.2 (.inr (by simp)))))))
   refine ⟨none,_,run_endLoop hb (by simp),?_⟩
   refine hdone s hq g' Dk hm' _ _ hfr ?_
   have hp4:Hp M0 w0 w' (blkO L (.loop (rdy rc))::(dblk Dk::(B0++(IB s g'++BS)))) (IR s g'++RS) F:=by
    refine hp3.perm ?_ (qBF _)
    show ((B0++(IB s g'++[blkO L (.loop (rdy rc)),dblk Dk]))++BS).Perm ([blkO L (.loop (rdy rc)),dblk Dk]++(B0++(IB s g'++BS)))
    grind [qC8,qCb]
   exact (hp4.setObj (i:=0) (b:=blkO L (.loop (rdy rc))) rfl _).weaken (by simp) (qBE _) (fun φ h=>h)
  | inr t =>
   have hb:w'.heap[L]?=some (.loop (don rc (jump t))):=hp3.blk (blkO L (.loop (don rc (jump t)))) (qBg.2 (.inl (qBg.2 (.inr (qBg.2 (.inr (by simp)))))))
   refine ⟨some (jump t),_,run_endLoop hb (by simp),?_⟩
   refine hstop t hq g' Dk hm' _ _ hfr ?_
   have hp4:Hp M0 w0 w' (blkO L (.loop (don rc (jump t)))::(dblk Dk::(B0++(XB t g'++BS)))) (XR t g'++RS) F:=by
    refine hp3.perm ?_ (qBF _)
    show ((B0++(XB t g'++[blkO L (.loop (don rc (jump t))),dblk Dk]))++BS).Perm ([blkO L (.loop (don rc (jump t))),dblk Dk]++(B0++(XB t g'++BS)))
    grind [qC8,qCb]
   exact (hp4.setObj (i:=0) (b:=blkO L (.loop (don rc (jump t)))) rfl _).weaken (by simp) (qBE _) (fun φ h=>h)
theorem qoz {xs:Array Operand}(hw:wants ops l ⟨some d,.makeFunc (.func f) #[] xs,t,pos,af,gd⟩=some true)(hx:evArgs l xs.toList=some vs)(hd:Nat.blt d n=true)(h:SXO P ro n D M0 w0 Q ops rest ((d,.func (.func f) #[] vs.toArray)::l) B R F m r):SXO P ro n D M0 w0 Q ops (⟨some d,.makeFunc (.func f) #[] xs,t,pos,af,gd⟩::rest) l B R F m r :=
 qO _ hw rfl hd (fun a w hf _=>by
  have h2:=hf.evArgs hx
  have h3:xs.map a.eval=vs.toArray:=by grind
  generalize a.eval=ε at h3 ⊢
  simp[execOp,Instr.makeFunc,h3]) h
theorem qm2 {xs:Array Operand}{cs:List Value}(hf:Fr n D a l)(he:Enters P f)(h0:ev l x0=some (.func (.func f) #[] cs.toArray))(hx:evArgs l xs.toList=some vs) :
  (execOp a.eval ⟨dst,.call ⟨.value x0,xs,tys⟩,t,pos,af,gd⟩).run P w=.ok (.enter f (vs++cs).toArray) w:=by
 have h1:=hf.ev h0
 have h2:=hf.evArgs hx
 have h3:xs.map a.eval=vs.toArray:=by grind
 have h4:=he (vs++cs).toArray w
 have h5:(vs++cs).toArray=vs.toArray++cs.toArray:=by simp
 grind [execOp,resolve,Deferred.ofValue,invoke]
theorem qkb {γ:Type}{mg:Option α}{k:α→Option ρ}{xs:Array Operand}{cs:List Value}{V:α→γ→Value}{RW:α→γ→List RowD}{PH:α→γ→List (World→Prop)}(he:Enters P f)(h0:ev l x0=some (.func (.func f) #[] cs.toArray))(hw:wants ops l ⟨some d,.call ⟨.value x0,xs,tys⟩,t,pos,af,gd⟩=some true)(hx:evArgs l xs.toList=some vs)(hd:Nat.blt d n=true)(hC:∀ y,mg=some y→Pure P f (vs++cs) Φ γ (V y) (RW y) (PH y))(ha:Args R F Φ)(h:∀ y,mg=some y→∀ g,SXO P ro n D M0 w0 Q ops rest ((d,V y g)::l) B (RW y g++R) (PH y g++F) (k y) r) :
  SXO P ro n D M0 w0 Q ops (⟨some d,.call ⟨.value x0,xs,tys⟩,t,pos,af,gd⟩::rest) l B R F (mg.bind k) r:=by
 intro hm a w hf hp
 cases hq:mg with
 | none=>simp_all
 | some y =>
  rw[hq] at hm
  have hm':k y=some r:=by grind
  refine qdi (zo hf hw) (yV hw) (qm2 hf he h0 hx) ((hC y hq w (Hp.start (ha.ok hp))).mono fun e w' ⟨g,h1,h2⟩=>⟨V y g,h1,?_⟩)
  exact h y hq g hm' _ _ (hf.put hd _) (hp.call h2)
theorem qfA {γ:Type}{mg:Option α}{k:α→Option ρ}{xs:Array Operand}{cs:List Value}{V:α→γ→Value}{B1:α→γ→List BlkD}{R1:α→γ→List RowD}(he:Enters P f)(h0:ev l x0=some (.func (.func f) #[] cs.toArray))(hw:wants ops l ⟨some d,.call ⟨.value x0,xs,tys⟩,t,pos,af,gd⟩=some true)(hx:evArgs l xs.toList=some vs)(hd:Nat.blt d n=true)(hC:∀ y,mg=some y→PureM P f (vs++cs) B0 R0 Φ γ (V y) (B1 y) (R1 y))(hB:Takes B B0 BS)(hR:Takes R R0 RS)(ha:ArgsM RS F Φ)(h:∀ y,mg=some y→∀ g,SXO P ro n D M0 w0 Q ops rest ((d,V y g)::l) (B1 y g++BS) (R1 y g++RS) F (k y) r) :
  SXO P ro n D M0 w0 Q ops (⟨some d,.call ⟨.value x0,xs,tys⟩,t,pos,af,gd⟩::rest) l B R F (mg.bind k) r:=by
 intro hm a w hf hp
 cases hq:mg with
 | none=>simp_all
 | some y =>
  rw[hq] at hm
  have hm':k y=some r:=by grind
  have hp':=hp.perm hB.perm hR.perm
  refine qdi (zo hf hw) (yV hw) (qm2 hf he h0 hx) ((hC y hq w (hp'.startM (ha.ok hp'))).mono fun e w' ⟨g,h1,h2⟩=>⟨V y g,h1,?_⟩)
  exact h y hq g hm' _ _ (hf.put hd _) (hp'.callM h2)
theorem qmR {i:Nat}{v:Value}:∀ (l':Env),(∀ p∈l',look l p.1=some p.2)→look l' i=some v→look l i=some v
 | [],_,h=>by simp[look] at h
 | (k,u)::l',h,hv=>by
  rw[qag] at hv
  split at hv
  ·simp_all
  ·exact qmR l' (fun p hp=>h p (qBt _ hp)) hv
theorem qdq {c:Code}(l':Env)(h:∀ p∈l',look l p.1=some p.2)(hc:SXC P ro n D M0 w0 Q c l' B R F m r):SXC P ro n D M0 w0 Q c l B R F m r :=
 fun hm a w hf hp=>hc hm a w ⟨hf.defers,hf.size,fun i v hv=>hf.val i v (qmR l' h hv)⟩ hp
def opK (ro:Option Nat)(P:Program)(ops:Array Oper)(Q:Exit→Act→World→Prop)(i:Nat)(K:Act→World→Prop)(a:Act)(w:World):Prop:=wpOpIn (Wd ro) 0 P ops Q i K a w
def anyK (ro:Option Nat)(P:Program)(ops:Array Oper)(Q:Exit→Act→World→Prop)(S:Array Bool→World→Prop):Nat→Array Bool→Act→World→Prop
 | 0,done,a,w=>Region.ready .any ops done=[]∧Q .normal a w
 | fuel+1,done,a,w=>(Region.ready .any ops done=[]→Q .normal a w) ∧
  ∀ i∈Region.ready .any ops done,opK ro P ops Q i (fun a' w'=>S (done.setIfInBounds i true) w'∧anyK ro P ops Q S fuel (done.setIfInBounds i true) a' w') a w
theorem qiy {S:Array Bool→World→Prop}:∀ (fuel:Nat) (done:Array Bool) (a:Act) (w:World),anyK ro P ops Q S fuel done a w→wpAnyIn (Wd ro) 0 P .any ops Q fuel done a w
 | 0,_,_,_,h=>h
 | fuel+1,_,_,_,h=>⟨h.1,fun i hi=>wpOpIn_mono (fun a' w' h'=>qiy fuel _ a' w' h'.2) (h.2 i hi)⟩
def calmA (ops:Array Oper):Bool:=ops.all fun o=>calm o
theorem qiz (h:calmA ops=true)(ho:ops[j]?=some o):∀ c,o.op≠.defer c:=by
 have:=Array.all_eq_true_iff_forall_mem.1 h o (Array.mem_of_getElem? ho)
 grind [calm]
def YI (P:Program)(ops:Array Oper)(T:World→Prop)(o:Oper)(v:Value)(a:Act):Prop :=
 (Region.wanted o (yielded ops a.tmps)=true∧∀ w,T w→(execOp a.eval o).run P w=.ok (.value v) w)∨(Region.wanted o (yielded ops a.tmps)=false∧v=undef)
theorem YI.of_same {T:World→Prop}{v:Value}{a':Act}(hy:YI P ops T o v a)(he:execOp a'.eval o=execOp a.eval o)(hw:Region.wanted o (yielded ops a'.tmps)=Region.wanted o (yielded ops a.tmps)):YI P ops T o v a':=by
 grind [YI]
theorem YI.op {T:World→Prop}{v:Value}(hi:ops[i]?=some o)(hc:∀ c,o.op≠.defer c)(hy:YI P ops T o v a){K:Act→World→Prop}(hT:T w)(h:K (a.put o.dst v) w):opK ro P ops Q i K a w:=by
 unfold opK wpOpIn
 simp only[hi]
 rcases hy with ⟨hw,hv⟩ | ⟨hw,rfl⟩
 ·rw[if_pos hw]
  refine ⟨fun _ _=>trivial,?_⟩
  rw[Oper.semAt_eq _ _ _ hc,hv w hT]
  exact h
 ·rw[if_neg (by simp_all)]
  exact ⟨fun _ _=>trivial,h⟩
theorem qx4 {T:World→Prop}{oj:Oper}{v:Value}(hj:ops[j]?=some oj)(hcj:∀ c,oj.op≠.defer c)(hap:oi.apart ops oj=true)(hsi:∀ cs b,oi.op≠.select cs b)(hsj:∀ cs b,oj.op≠.select cs b)(hQ:∀ c a w,Q (.panic c) (a.put oi.dst v) w→Q (.panic c) a w){K:Act→World→Prop}(hy:YI P ops T oi v a)(h:opK ro P ops Q j K (a.put oi.dst v) w) :
  opK ro P ops Q j (fun a' w'=>YI P ops T oi v a'∧K (a'.put oi.dst v) w') a w:=by
 obtain ⟨h1,h2,h3⟩:=Oper.apart_spec hap
 have keep:∀ (a:Act),YI P ops T oi v a→∀ u,YI P ops T oi v (a.put oj.dst u):=fun a hy u=>hy.of_same (execOp_put oi hsi a oj.dst u h3) (wanted_put oi a oj.dst u h3)
 unfold opK wpOpIn at *
 simp only[hj] at *
 rw[wanted_put oj a oi.dst v h1] at h
 split
 ·rename_i hw
  rw[if_pos hw] at h
  refine ⟨fun _ _=>trivial,?_⟩
  have h':=h.2
  rw[Oper.semAt_eq _ _ _ hcj] at h' ⊢
  rw[execOp_put oj hsj a oi.dst v h1] at h'
  generalize (execOp a.eval oj).run P w=x at h' ⊢
  cases x with
  | ok n w' =>
   cases n with
   | value u=>exact ⟨keep a hy u,by rw[← Act.put_comm a v u h2];exact h'⟩
   | skip=>exact ⟨keep a hy _,by rw[← Act.put_comm a v undef h2];exact h'⟩
   | defer d =>
    refine ⟨keep { a with defers:=d::a.defers } (hy.of_same rfl rfl) _,?_⟩
    rw[← Act.put_comm _ v undef h2,← Act.put_defers]
    exact h'
   | enter f args =>
    refine ⟨h'.1,h'.2.mono fun e w'' he=>?_⟩
    grind [Act.put_comm]
   | row row args=>exact ⟨h'.1,h'.2.mono fun u w'' he=>⟨keep a hy u,by grind [Act.put_comm]⟩⟩
   | round l f tmps asg body =>
    refine ⟨h'.1,h'.2.mono fun e w'' he=>?_⟩
    grind [Act.put_comm]
   | _=>exact h'
  | halt x w'=>cases x <;> first | exact hQ _ _ _ h' | exact h'
 ·rename_i hw
  rw[if_neg hw] at h
  exact ⟨fun _ _=>trivial,keep a hy _,by grind [Act.put_comm]⟩
def Closed (ops:Array Oper)(done:Array Bool):Prop:=∀ d o,ops[d]?=some o→done.getD d true=true→∀ e∈o.after,Region.binds .any e=true→done.getD e.on false=true
def qnM (ops:Array Oper)(done:Array Bool):Bool :=
 (List.range ops.size).all fun d=>!(done.getD d true) || (match ops[d]? with | some o=>o.after.all fun e=>!(Region.binds .any e) || done.getD e.on false | none=>true)
theorem qdE {done:Array Bool}(h:qnM ops done=true):Closed ops done:=by
 intro d o ho hd e he hb
 have hlt:=(Array.getElem?_eq_some_iff.1 ho).1
 have:=qBQ.1 h d (List.mem_range.2 hlt)
 rw[hd,ho] at this
 simp only[Bool.not_true,Bool.false_or] at this
 grind [Array.all_eq_true_iff_forall_mem]
theorem Closed.step {done:Array Bool}(h:Closed ops done)(hj:j∈Region.ready .any ops done):Closed ops (done.setIfInBounds j true):=by
 intro d o ho hd e he hb
 obtain ⟨_,oj,hoj,hall⟩:=mem_ready.1 hj
 by_cases hjd:j=d
 ·grind [getD_set_true]
 ·rw[getD_set_ne true hjd] at hd
  exact getD_set_true (h d o ho hd e he hb)
def edgeB (ops:Array Oper)(c d:Nat):Bool:=match ops[d]? with | some o=>o.after.any fun e=>Region.binds .any e && e.on == c | none=>false
def chB (ops:Array Oper):Nat→List Nat→Nat→Bool
 | c,[],p=>c == p
 | c,d::ds,p=>edgeB ops c d && chB ops d ds p
theorem chain {done:Array Bool}(h:Closed ops done):∀ (ds:List Nat) (c p:Nat),chB ops c ds p=true→done.getD p true=true→done.getD c true=true
 | [],c,p,hc,hp=>by
  grind [chB]
 | d::ds,c,p,hc,hp=>by
  simp only[chB,qBY] at hc
  have hd:=chain h ds d p hc.2 hp
  have he:=hc.1
  unfold edgeB at he
  cases ho:ops[d]? with
  | none=>simp_all
  | some o =>
   rw[ho] at he
   simp only at he
   rw[Array.any_eq_true] at he
   obtain ⟨k,hk,hb⟩:=he
   simp only[qBY,beq_iff_eq] at hb
   have:=h d o ho hd o.after[k] (Array.getElem_mem hk) hb.1
   grind
theorem qcA {T:World→Prop}{S:Array Bool→World→Prop}{v:Value}(hi:ops[i]?=some oi)(hcalm:calmA ops=true)(hsel:∀ (j:Nat) (o:Oper) cs b,ops[j]?=some o→o.op≠.select cs b)(hQ:∀ c a w,Q (.panic c) (a.put oi.dst v) w→Q (.panic c) a w)(hST:∀ done w,done.getD i true=false→Closed ops done→S done w→T w)(hSi:∀ done w,S (done.setIfInBounds i true) w→S done w)(hSm:∀ done w,S done w→S (done.setIfInBounds i true) w) :
  ∀ (fuel:Nat) (done:Array Bool) (a:Act) (w:World),
   (∀ j oj,ops[j]?=some oj→j≠i→done.getD j true=false→(∀ e∈oj.after,Region.binds .any e=true→e.on≠i)→oi.apart ops oj=true) →
   i∈Region.ready .any ops done→Closed ops done→YI P ops T oi v a→S done w →
   anyK ro P ops Q S fuel (done.setIfInBounds i true) (a.put oi.dst v) w→anyK ro P ops Q S (fuel+1) done a w:=by
 intro fuel
 induction fuel with
 | zero =>
  intro done a w _ hr hcl hy hS H
  refine ⟨fun h=>(by simp_all),fun j hj=>?_⟩
  by_cases hji:j=i
  ·subst hji
   exact hy.op hi (qiz hcalm hi) (hST _ _ (mem_ready.1 hr).1 hcl hS) ⟨hSm _ _ hS,H⟩
  ·have:=ready_mono hj hji
   rw[H.1] at this
   grind
 | succ fuel ih =>
  intro done a w hfree hr hcl hy hS H
  refine ⟨fun h=>(by simp_all),fun j hj=>?_⟩
  by_cases hji:j=i
  ·subst hji
   exact hy.op hi (qiz hcalm hi) (hST _ _ (mem_ready.1 hr).1 hcl hS) ⟨hSm _ _ hS,H⟩
  ·have h1:=H.2 j (ready_mono hj hji)
   obtain ⟨hjun,oj,hoj,hall⟩:=mem_ready.1 hj
   have hnot:∀ e∈oj.after,Region.binds .any e=true→e.on≠i:=fun e he hb heq=>by
    have h1:=hall e he hb
    grind [mem_ready]
   have h2:=qx4 hoj (qiz hcalm hoj) (hfree j oj hoj hji hjun hnot) (fun cs b=>hsel i oi cs b hi) (fun cs b=>hsel j oj cs b hoj) hQ hy h1
   have hfree':∀ k ok,ops[k]?=some ok→k≠i→(done.setIfInBounds j true).getD k true=false→(∀ e∈ok.after,Region.binds .any e=true→e.on≠i)→oi.apart ops ok=true:=fun k ok hk hki hun hno=>by
    refine hfree k ok hk hki ?_ hno
    by_cases hjk:j=k
    ·grind
    ·rw[getD_set_ne true hjk] at hun;omega
   refine wpOpIn_mono (fun a' w' h3=>?_) h2
   have hS':S (done.setIfInBounds j true) w':=hSi _ _ (by grind [Array.setIfInBounds_comm])
   refine ⟨hS',ih (done.setIfInBounds j true) a' w' hfree' (ready_mono hr (Ne.symm hji)) (hcl.step hj) h3.1 hS' ?_⟩
   grind [Array.setIfInBounds_comm]
variable {Bs:List BlkD}{Fs:List (World→Prop)}{ps:List Nat}
def Sh (ps:List Nat)(Bs:List BlkD)(Fs:List (World→Prop))(done:Array Bool)(w:World):Prop:=(∀ b∈Bs,b.is w)∧((∀ p∈ps,done.getD p true=false)→∀ φ∈Fs,φ w)
def SXB (P:Program)(ro:Option Nat)(ps:List Nat)(n:Nat)(D:List Deferred)(M0:List Nat)(w0:World)(Q:Exit→Act→World→Prop){ρ:Type}(ops:Array Oper)(Bs:List BlkD)(Fs:List (World→Prop))(fuel:Nat)(done:Array Bool)
  (l:Env) (B:List BlkD) (R:List RowD) (F:List (World→Prop)) (m:Option ρ) (r:ρ):Prop :=
 m=some r→∀ a w,Fr n D a l→Hp M0 w0 w B R F→Sh ps Bs Fs done w→anyK ro P ops Q (Sh ps Bs Fs) fuel done a w
theorem qf:∀ φ∈([]:List (World→Prop)),φ∈F∨(∃ rd∈R,∀ w,Cells rd.v rd.n rd.size rd.cs w→φ w)∨∃ b∈B,∀ w,b.is w→φ w:=by simp
theorem qh {φ:World→Prop}{r:List (World→Prop)}(j:Nat)(h:F[j]?=some φ)(hr:∀ φ∈r,φ∈F∨(∃ rd∈R,∀ w,Cells rd.v rd.n rd.size rd.cs w→φ w)∨∃ b∈B,∀ w,b.is w→φ w) :
  ∀ ψ∈(φ::r),ψ∈F∨(∃ rd∈R,∀ w,Cells rd.v rd.n rd.size rd.cs w→ψ w)∨∃ b∈B,∀ w,b.is w→ψ w:=by
 grind
theorem qE {φ:World→Prop}{r:List (World→Prop)}(j:Nat){rd:RowD}(h:R[j]?=some rd)(hφ:∀ w,Cells rd.v rd.n rd.size rd.cs w→φ w)(hr:∀ φ∈r,φ∈F∨(∃ rd∈R,∀ w,Cells rd.v rd.n rd.size rd.cs w→φ w)∨∃ b∈B,∀ w,b.is w→φ w) :
  ∀ ψ∈(φ::r),ψ∈F∨(∃ rd∈R,∀ w,Cells rd.v rd.n rd.size rd.cs w→ψ w)∨∃ b∈B,∀ w,b.is w→ψ w:=by
 intro p hp
 rcases qBi.1 hp with rfl | hp
 ·exact .inr (.inl ⟨rd,qBe h,hφ⟩)
 simp_all
theorem qgv {r:List (World→Prop)}(j:Nat){b:BlkD}(h:B[j]?=some b)(hr:∀ φ∈r,φ∈F∨(∃ rd∈R,∀ w,Cells rd.v rd.n rd.size rd.cs w→φ w)∨∃ b∈B,∀ w,b.is w→φ w) :
  ∀ ψ∈(b.is::r),ψ∈F∨(∃ rd∈R,∀ w,Cells rd.v rd.n rd.size rd.cs w→ψ w)∨∃ b∈B,∀ w,b.is w→ψ w:=by
 intro p hp
 rcases qBi.1 hp with rfl | hp
 ·exact .inr (.inr ⟨b,qBe h,fun _ h=>h⟩)
 simp_all
theorem qdn (hp:Hp M0 w0 w B R F)(hB:Pick B Bs)(hF:∀ φ∈Fs,φ∈F∨(∃ rd∈R,∀ w,Cells rd.v rd.n rd.size rd.cs w→φ w)∨∃ b∈B,∀ w,b.is w→φ w):Stay Bs Fs w:=by
 have h:=hp.pick (B':=Bs) (R':=[]) (F':=[]) hB .nil (by simp)
 refine ⟨h.blk,fun φ hφ=>?_⟩
 rcases hF φ hφ with h1 | ⟨rd,h1,h2⟩ | ⟨b,h1,h2⟩
 ·exact (hp.per φ h1).here
 ·exact h2 w (zn (hp.row rd h1))
 ·exact h2 w (hp.blk b h1)
theorem kB {id:Nat}{os:List Oper}(hm:P.follows .mixedOrders=true)(ps:List Nat)(Bs:List BlkD)(Fs:List (World→Prop))(hB:Pick B Bs)(hF:∀ φ∈Fs,φ∈F∨(∃ rd∈R,∀ w,Cells rd.v rd.n rd.size rd.cs w→φ w)∨∃ b∈B,∀ w,b.is w→φ w)(k:Nat)(hk:os.length=k)(h:SXB P ro ps n D M0 w0 (yG Q) os.toArray Bs Fs k (Array.replicate k false) l B R F m r):SXC P ro n D M0 w0 Q (.region id os.toArray true) l B R F m r:=by
 intro hmm a w hf hp
 refine qjh (Q:=yG Q) (wpIn_region_any hm ?_) fun e a w hq=>?_
 ·have hp':Hp M0 w0 { w with drawn:=w.drawn+1 } B R F:=hp.step (Keeps.of_heap rfl rfl rfl rfl)
  have:=h hmm a _ hf hp' ⟨(qdn hp' hB hF).1,fun _=>(qdn hp' hB hF).2⟩
  grind [qiy]
 ·cases e <;> first | exact hq | exact hq.elim
def chsB (ops:Array Oper)(i:Nat):List (List Nat)→List Nat→Bool
 | [],[]=>true
 | c::cs,p::ps=>chB ops i c p && chsB ops i cs ps
 | _,_=>false
theorem qr7 {i:Nat}{done:Array Bool}(hcl:Closed ops done)(hd:done.getD i true=false):∀ (cs:List (List Nat)) (ps:List Nat),chsB ops i cs ps=true→∀ p∈ps,done.getD p true=false
 | [],[],_,p,hp=>by grind
 | c::cs,q::ps,h,p,hp=>by
  simp only[chsB,qBY] at h
  rcases qBi.1 hp with rfl | hp
  ·grind [chain]
  ·exact qr7 hcl hd cs ps h.2 p hp
 | [],_::_,h,_,_=>by simp[chsB] at h
 | _::_,[],h,_,_=>by simp_all
theorem Sh.set {done:Array Bool}(hi:ps.contains i=false):Sh ps Bs Fs (done.setIfInBounds i true) w↔Sh ps Bs Fs done w:=by
 have key:∀ p∈ps,(done.setIfInBounds i true).getD p true=done.getD p true:=fun p hp=>getD_set_ne true (by grind)
 grind [Sh]
def okP (ops:Array Oper)(ps:List Nat)(done:Array Bool)(i d n:Nat):Bool :=
 calmA ops && (Region.noSelect ops && (Region.free .any ops done i && ((Region.ready .any ops done).contains i && (qnM ops done && (!ps.contains i && Nat.blt d n)))))
theorem qgW {done:Array Bool}(h:okP ops ps done i d n=true):calmA ops=true∧Region.noSelect ops=true∧Region.free .any ops done i=true∧(Region.ready .any ops done).contains i=true∧qnM ops done=true∧ps.contains i=false∧Nat.blt d n=true:=by
 unfold okP at h
 simp_all
theorem qB {done:Array Bool}(i:Nat)(V:Value)(cs:List (List Nat))(ho:ops[i]?=some o)(hd:o.dst=some d)(hw:wants ops l o=some true)(hy:Yv P l Bs Fs o V)(h:SXB P ro ps n D M0 w0 (yG Q) ops Bs Fs fuel (done.setIfInBounds i true) ((d,V)::l) B R F m r)(hk:okP ops ps done i d n=true:=by kernel_rfl)(hch:chsB ops i cs ps=true:=by kernel_rfl):SXB P ro ps n D M0 w0 (yG Q) ops Bs Fs (fuel+1) done l B R F m r:=by
 intro hm a w hf hp hS
 obtain ⟨hca,hs,hfr,hr,hcl,hni,hdn⟩:=qgW hk
 refine qcA (S:=Sh ps Bs Fs) (T:=Stay Bs Fs) (v:=V) ho hca (Region.noSelect_spec hs) (fun c a w h=>h) (fun done w h1 h2 h3=>⟨h3.1,h3.2 (qr7 h2 h1 cs ps hch)⟩) (fun _ _ h=>(Sh.set hni).1 h) (fun _ _ h=>(Sh.set hni).2 h) fuel done a w (Region.free_spec ho hfr) (by grind) (qdE hcl)
  (.inl ⟨zo hf hw,fun w' hS'=>hy n D a w' hf hS'⟩) hS ?_
 rw[hd]
 exact h hm _ _ (hf.put hdn _) hp ((Sh.set hni).2 hS)
theorem qA {done:Array Bool}(i:Nat)(V:Value)(ho:ops[i]?=some o)(hd:o.dst=some d)(hw:wants ops l o=some true)(hy:Yv P l Bs [] o V)(h:SXB P ro ps n D M0 w0 (yG Q) ops Bs Fs fuel (done.setIfInBounds i true) ((d,V)::l) B R F m r)(hk:okP ops ps done i d n=true:=by kernel_rfl):SXB P ro ps n D M0 w0 (yG Q) ops Bs Fs (fuel+1) done l B R F m r:=by
 intro hm a w hf hp hS
 obtain ⟨hca,hs,hfr,hr,hcl,hni,hdn⟩:=qgW hk
 refine qcA (S:=Sh ps Bs Fs) (T:=fun w=>∀ b∈Bs,b.is w) (v:=V) ho hca (Region.noSelect_spec hs) (fun c a w h=>h) (fun _ _ _ _ h=>h.1) (fun _ _ h=>(Sh.set hni).1 h) (fun _ _ h=>(Sh.set hni).2 h) fuel done a w (Region.free_spec ho hfr) (by grind) (qdE hcl)
  (.inl ⟨zo hf hw,fun w' h=>hy n D a w' hf ⟨h,by simp⟩⟩) hS ?_
 rw[hd]
 exact h hm _ _ (hf.put hdn _) hp ((Sh.set hni).2 hS)
theorem qb {done:Array Bool}(i:Nat)(V:Value)(ho:ops[i]?=some o)(hd:o.dst=some d)(hw:wants ops l o=some true)(hy:Yv P l [] [] o V)(h:SXB P ro ps n D M0 w0 (yG Q) ops Bs Fs fuel (done.setIfInBounds i true) ((d,V)::l) B R F m r)(hk:okP ops ps done i d n=true:=by kernel_rfl):SXB P ro ps n D M0 w0 (yG Q) ops Bs Fs (fuel+1) done l B R F m r:=by
 intro hm a w hf hp hS
 obtain ⟨hca,hs,hfr,hr,hcl,hni,hdn⟩:=qgW hk
 refine qcA (S:=Sh ps Bs Fs) (T:=fun _=>True) (v:=V) ho hca (Region.noSelect_spec hs) (fun c a w h=>h) (fun _ _ _ _ _=>trivial) (fun _ _ h=>(Sh.set hni).1 h) (fun _ _ h=>(Sh.set hni).2 h) fuel done a w (Region.free_spec ho hfr) (by grind) (qdE hcl)
  (.inl ⟨zo hf hw,fun w' _=>hy n D a w' hf ⟨by simp,by simp⟩⟩) hS ?_
 rw[hd]
 exact h hm _ _ (hf.put hdn _) hp ((Sh.set hni).2 hS)
theorem qwB {done:Array Bool}(i:Nat)(ho:ops[i]?=some o)(hd:o.dst=some d)(hw:wants ops l o=some false)(h:SXB P ro ps n D M0 w0 (yG Q) ops Bs Fs fuel (done.setIfInBounds i true) ((d,undef)::l) B R F m r)(hk:okP ops ps done i d n=true:=by kernel_rfl):SXB P ro ps n D M0 w0 (yG Q) ops Bs Fs (fuel+1) done l B R F m r:=by
 intro hm a w hf hp hS
 obtain ⟨hca,hs,hfr,hr,hcl,hni,hdn⟩:=qgW hk
 refine qcA (S:=Sh ps Bs Fs) (T:=fun _=>True) (v:=undef) ho hca (Region.noSelect_spec hs) (fun c a w h=>h) (fun _ _ _ _ _=>trivial) (fun _ _ h=>(Sh.set hni).1 h) (fun _ _ h=>(Sh.set hni).2 h) fuel done a w (Region.free_spec ho hfr) (by grind) (qdE hcl)
  (.inr ⟨zo hf hw,rfl⟩) hS ?_
 rw[hd]
 exact h hm _ _ (hf.put hdn _) hp ((Sh.set hni).2 hS)
theorem qAm {done:Array Bool}{c:Bool}{m1 m2:Option ρ}(h1:c=true→SXB P ro ps n D M0 w0 Q ops Bs Fs fuel done l B R F m1 r)(h2:c=false→SXB P ro ps n D M0 w0 Q ops Bs Fs fuel done l B R F m2 r) :
  SXB P ro ps n D M0 w0 Q ops Bs Fs fuel done l B R F (if c then m1 else m2) r:=by
 grind
theorem zY {done:Array Bool}{u v:Value}(hu:look l d=some u)(he:u=v)(h:SXB P ro ps n D M0 w0 Q ops Bs Fs fuel done ((d,v)::l) B R F m r):SXB P ro ps n D M0 w0 Q ops Bs Fs fuel done l B R F m r :=
 fun hm a w hf hp hS=>h hm a w (hf.again hu he) hp hS
theorem qgC {done:Array Bool}(hr:Region.ready .any ops done=[])(h:SXQ n D M0 w0 Q .normal l B R F m r):SXB P ro ps n D M0 w0 Q ops Bs Fs fuel done l B R F m r :=
 fun hm a w hf hp _=>by
  have h1:=h hm a w hf hp
  cases fuel with
  | zero=>exact ⟨hr,h1⟩
  | succ fuel=>exact ⟨fun _=>h1,by simp_all⟩
theorem qgD {done done':Array Bool}(i:Nat)(ho:ops[i]?=some o)(hr:Region.ready .any ops done=[i])(hdone:done.setIfInBounds i true=done')(h:SXO P ro n D M0 w0 (Exit.then (fun a w=>Sh ps Bs Fs done' w∧anyK ro P ops Q (Sh ps Bs Fs) fuel done' a w) Q) ops [o] l B R F m r):SXB P ro ps n D M0 w0 Q ops Bs Fs (fuel+1) done l B R F m r:=by
 intro hm a w hf hp hS
 refine ⟨fun h0=>(by simp_all),fun j hj=>?_⟩
 rw[hr] at hj
 simp only[qBr] at hj
 subst hj
 have h1:=h hm a w hf hp
 rw[hdone]
 unfold kA wpListIn at h1
 unfold opK wpOpIn
 simp only[ho]
 split
 ·rename_i hw
  rw[if_pos hw] at h1
  refine ⟨fun _ _=>trivial,?_⟩
  exact Oper.uponIn_mono (fun a w h=>h) (fun c a w h=>h) (fun h=>h) _ h1.2
 ·rename_i hw
  rw[if_neg hw] at h1
  exact ⟨fun _ _=>trivial,h1.2⟩
theorem qc {done:Array Bool}{K:Exit→Act→World→Prop}(hB:Pick B Bs)(hF:∀ φ∈Fs,φ∈F∨(∃ rd∈R,∀ w,Cells rd.v rd.n rd.size rd.cs w→φ w)∨∃ b∈B,∀ w,b.is w→φ w)(h:SXB P ro ps n D M0 w0 Q ops Bs Fs fuel done l B R F m r) :
  SXQ n D M0 w0 (Exit.then (fun a w=>Sh ps Bs Fs done w∧anyK ro P ops Q (Sh ps Bs Fs) fuel done a w) K) .normal l B R F m r :=
 fun hm a w hf hp=>⟨⟨(qdn hp hB hF).1,fun _=>(qdn hp hB hF).2⟩,h hm a w hf hp ⟨(qdn hp hB hF).1,fun _=>(qdn hp hB hF).2⟩⟩
theorem kZ {done:Array Bool}{K:Exit→Act→World→Prop}(p:Nat)(hp:ps.contains p=true)(hd:done.getD p true=true)(hB:Pick B Bs)(h:SXB P ro ps n D M0 w0 Q ops Bs Fs fuel done l B R F m r) :
  SXQ n D M0 w0 (Exit.then (fun a w=>Sh ps Bs Fs done w∧anyK ro P ops Q (Sh ps Bs Fs) fuel done a w) K) .normal l B R F m r:=by
 intro hm a w hf hpp
 have hv:Sh ps Bs Fs done w:=⟨(qdn (Fs:=[]) hpp hB (by simp)).1,fun h=>by
  simp_all⟩
 exact ⟨hv,h hm a w hf hpp hv⟩
theorem kW {d:Option Tmp}{e:TypeId}{size g o:Nat}{cs:List Value}{V:Value}(hx:ev l x=some (.pointer (some ⟨g,o,none⟩)))(hT:TyF P t' agg z size bytes)(hF:F[j]?=some (BlkD.is ⟨g,e,cs⟩))(hl:((cs.drop o).take size).length=size)(hs:agg=false→size=1)(hV:(if agg then .agg ((cs.drop o).take size).toArray else ((cs.drop o).take size).getD 0 undef)=V) :
  Yv P l B F ⟨d,.load t' x,t,pos,af,gd⟩ V:=fun n D a w hf hp =>
 qy (B:=[⟨g,e,cs⟩]) (F:=[]) (i:=0) hx hT rfl hl hs hV n D a w hf ⟨fun b hb=>by rw[qBr] at hb;subst hb;exact hp.2 _ (qBe hF),by simp⟩
theorem qbJ {x:Code}{enc:α→List Value}{e size:Nat}{k:α→Option ρ}{i:Int}(hR:R[j]?=some (Ro enc e size (.slice ao xs.length c) xs))(h:∀ y,idx xs i=some y→∀ g,ao=some ⟨g,0,none⟩→SXC P ro n D M0 w0 Q x l B R F (k y) r) :
  SXC P ro n D M0 w0 Q x l B R F ((idx xs i).bind k) r:=by
 intro hm a w hf hp
 cases hq:idx xs i with
 | none=>simp_all
 | some y =>
  rw[hq] at hm
  have hm':k y=some r:=by grind
  obtain ⟨_,hlt,_⟩:=qu hq
  have hown:=hp.row _ (qBe hR)
  rcases hown.2 with ⟨h5,h6⟩ | ⟨g,cap,cur,h5,_⟩
  ·have h6':xs.length=0:=h6
   omega
  ·have h5':Value.slice ao xs.length c=.slice (some ⟨g,0,none⟩) xs.length cap:=h5
   simp only[Value.slice.injEq] at h5'
   exact h y hq g h5'.1 hm' a w hf hp
theorem qn {enc:α→List Value}{size:Nat}{i:Int}{y:α}{g e:Nat}(henc:EncOk enc size)(hy:idx xs i=some y)(ha:ao=some ⟨g,0,none⟩) :
  ∀ w,Cells (Ro enc e size (.slice ao xs.length c) xs).v (Ro enc e size (.slice ao xs.length c) xs).n (Ro enc e size (.slice ao xs.length c) xs).size (Ro enc e size (.slice ao xs.length c) xs).cs w→ve g (i.toNat*size) (enc y) w:=by
 intro w h jj u hj
 obtain ⟨⟨ao',cap',hv',_,_,_,hc'⟩,_⟩:=(h:Cells (.slice ao xs.length c) xs.length size (xs.flatMap enc) w)
 have hv2:Value.slice ao xs.length c=.slice ao' xs.length cap':=hv'
 simp only[Value.slice.injEq] at hv2
 obtain ⟨rfl,-,-⟩:=hv2
 obtain ⟨_,_,hget⟩:=qu hy
 obtain ⟨ad',h3,h4⟩:=hc' (i.toNat*size+jj) u (vb henc xs i.toNat y jj u hget hj)
 simp_all
theorem qbs {ix:Operand}{ki:IntKind}{i:Int}{b0 k:Nat}{e:TypeId}{size:Nat}(ht:P.underlying t'=some (.slice e))(hT:TyF P e agg z size bytes)(hx:ev l x=some (.slice (some ⟨b0,0,none⟩) k c))(hi:ev l ix=some (.int ki i))(h0:0≤i)(hlt:i<(k:Int)) :
  Yv P l B F ⟨some d,.indexAddr t' x ix,t,pos,af,gd⟩ (.pointer (some ⟨b0,i.toNat*size,none⟩)):=by
 have:=qxl (B:=B) (F:=F) (d:=some d) (t:=t) (pos:=pos) (af:=af) (gd:=gd) ht hT hx hi h0 hlt
 simp_all
theorem zM {g k:Nat}(ha:ao=some ⟨g,0,none⟩):(Value.slice ao k c).ownBlock=some g:=by rw[ha];rfl
theorem kx {enc:α→List Value}{e:TypeId}{size g:Nat}{V:Value}{y':α}{k:List α→Option ρ}(henc:EncOk enc size)(hw:wants ops l ⟨none,.store t' x y,t,pos,af,gd⟩=some true)(hx:ev l x=some (.pointer (some ⟨g,i*size,none⟩)))(hy:ev l y=some V)(hT:TyF P t' agg z size bytes)(hR:R[j]?=some (Ro enc e size (.slice ao xs.length c) xs))(hg:(Value.slice ao xs.length c).ownBlock=some g)(hi:i<xs.length)(hV:V.cells.toList=enc y')(h:∀ ys,xs.set i y'=ys→Value.slice ao xs.length c=.slice ao ys.length c→SXO P ro n D M0 w0 Q ops rest l B (Ro enc e size (.slice ao ys.length c) ys::R.eraseIdx j) F (k ys) r) :
  SXO P ro n D M0 w0 Q ops (⟨none,.store t' x y,t,pos,af,gd⟩::rest) l B R F (lett (xs.set i y') k) r:=by
 have hl:(xs.set i y').length=xs.length:=qBs
 have hv:Value.slice ao xs.length c=.slice ao (xs.set i y').length c:=by rw[hl]
 have h1:=h _ rfl hv
 rw[← hv] at h1
 exact qlX henc hw hx hy hT hR hg hi hV h1
theorem qW {g e:Nat}{cs cs':List Value}(hB:B[i]?=some ⟨g,e,cs⟩)(he:cs=cs')(h:SXO P ro n D M0 w0 Q ops rest l (B.set i ⟨g,e,cs'⟩) R F m r):SXO P ro n D M0 w0 Q ops rest l B R F m r:=by
 subst he
 have:B.set i ⟨g,e,cs⟩=B:=by
  apply qBO
  grind
 simp_all
theorem qms {e:TypeId}(ht:P.underlying t=some (.slice e))(ao:Option Addr)(k c:Nat)(w:World):(Op.equal t (.slice ao k c) (.slice none 0 0)).run P w=.ok ao.isNone w:=by
 have:∀ d,(Op.equalIn (d+1) t (.slice ao k c) (.slice none 0 0)).run P w=.ok ao.isNone w:=fun d=>by
  unfold Op.equalIn
  rw[Sem.run_bind,run_underlying ht]
  cases ao <;> rfl
 exact this 9999
theorem qug {yt e:TypeId}{k:Nat}(hw:wants ops l ⟨some d,.binOp .eql xt x y yt,t,pos,af,gd⟩=some true)(ht:P.underlying xt=some (.slice e))(hx:ev l x=some (.slice ao k c))(hy:ev l y=some (.slice none 0 0))(hd:Nat.blt d n=true)(h:SXO P ro n D M0 w0 Q ops rest ((d,.bool ao.isNone)::l) B R F m r):SXO P ro n D M0 w0 Q ops (⟨some d,.binOp .eql xt x y yt,t,pos,af,gd⟩::rest) l B R F m r :=
 qO (.bool ao.isNone) hw rfl hd (fun a w hf _=>by
  have h1:=hf.ev hx
  have h2:=hf.ev hy
  have he:=qms ht ao k c w
  generalize a.eval=e at h1 h2 ⊢
  generalize hq:Op.equal xt (.slice ao k c) (.slice none 0 0)=q at he
  simp[execOp,h1,h2,eqGuard,binOp,hq,he,go_sem]) h
theorem qqc {x:Code}{enc:α→List Value}{size:Nat}(j:Nat)(henc:EncOk enc size)(hs:size≠0)(hF:F[j]?=some (Sl enc size (.slice ao xs.length c) xs))(ha:ao.isNone=true)(h:xs=[]→SXC P ro n D M0 w0 Q x l B R F m r):SXC P ro n D M0 w0 Q x l B R F m r:=by
 intro hm a w hf hp
 refine h ?_ hm a w hf hp
 have hnec:=hp.per _ (qBe hF)
 obtain ⟨⟨ao',cap,hv,_,_,_,hc⟩,hlen⟩:=(hnec.here:Cells (.slice ao xs.length c) xs.length size (xs.flatMap enc) w)
 cases xs with
 | nil=>rfl
 | cons y ys =>
  have hne:0<((y::ys).flatMap enc).length:=by
   have:=henc.len y
   grind
  obtain ⟨ad,h1,_⟩:=hc 0 _ (List.getElem?_eq_getElem hne)
  simp_all
theorem qry {ix:Operand}{s:ByteArray}{ki:IntKind}{i:Int}{k:Int→Option ρ}{xs:List Int}(hw:wants ops l ⟨some d,.index xt x ix,t,pos,af,gd⟩=some true)(ht:P.underlying xt=some .string)(hx:ev l x=some (.string s))(hi:ev l ix=some (.int ki i))(hs:s.data.toList.map (fun b=>(b.toNat:Int))=xs)(hd:Nat.blt d n=true)(h:∀ y,idx xs i=some y→SXO P ro n D M0 w0 Q ops rest ((d,.int .u8 y)::l) B R F (k y) r) :
  SXO P ro n D M0 w0 Q ops (⟨some d,.index xt x ix,t,pos,af,gd⟩::rest) l B R F ((idx xs i).bind k) r:=by
 refine k7 hw fun hm a w hf hp=>?_
 cases hq:idx xs i with
 | none=>simp_all
 | some y =>
  rw[hq] at hm
  have hm':k y=some r:=by grind
  obtain ⟨h0,hlt,hy⟩:=qu hq
  obtain ⟨I,rfl⟩:=qBf h0
  have hy':xs[I]?=some y:=hy
  rw[← hs,List.getElem?_map] at hy'
  cases hb:s.data.toList[I]? with
  | none=>simp_all
  | some b =>
   rw[hb] at hy'
   simp only[Option.map_some,qBl] at hy'
   have hb':s[I]?=some b:=by
    have h1:=(qBv.1 hb)
    obtain ⟨h2,h3⟩:=h1
    have h4:I<s.size:=by rw[Array.length_toList] at h2;exact h2
    rw[getElem?_pos s I h4]
    exact congrArg some h3
   refine ⟨.int .u8 y,w,?_,h y hq hm' _ _ (hf.put hd _) hp⟩
   have h1:=hf.ev hx
   have h2:=hf.ev hi
   generalize a.eval=ε at h1 h2 ⊢
   simp[execOp,h1,h2,Instr.index,asIntOf,run_underlying ht,hb',hy']
def imin (a b:Int):Int:=if b<a then b else a
def imax (a b:Int):Int:=if a<b then b else a
theorem qrT {k:IntKind}{a b:Int}{d:Option Tmp}(hx:ev l x=some (.int k a))(hy:ev l y=some (.int k b)):Yv P l B F ⟨d,.call ⟨.builtin .min,#[x,y],tys⟩,t,pos,af,gd⟩ (.int k (imin a b)):=fun n D ac w hf _=>by
 have h1:=hf.ev hx
 have h2:=hf.ev hy
 generalize ac.eval=e at h1 h2 ⊢
 simp[h1,h2,Builtin.min_,Builtin.min2,imin,go_sem]
theorem qAz {k:IntKind}{a b:Int}{d:Option Tmp}(hx:ev l x=some (.int k a))(hy:ev l y=some (.int k b)):Yv P l B F ⟨d,.call ⟨.builtin .max,#[x,y],tys⟩,t,pos,af,gd⟩ (.int k (imax a b)):=fun n D ac w hf _=>by
 have h1:=hf.ev hx
 have h2:=hf.ev hy
 generalize ac.eval=e at h1 h2 ⊢
 simp[h1,h2,Builtin.max_,Builtin.max2,imax,go_sem]
theorem qdr {parts:Array (Nat×Operand)}{vs:List (Nat×Value)}{places:List (Nat×Nat)}{cells:List Value}{d:Option Tmp}(hS:StF P t' places z)(hp:evParts l parts.toList=some vs)(hfill:Instr.fill (places.toArray[·]?) z.cells vs=some cells.toArray):Yv P l B F ⟨d,.build t' parts,t,pos,af,gd⟩ (.agg cells.toArray):=fun n D a w hf _=>by
 have hpe:=hf.evParts hp
 have hpa:(parts.map fun p=>(p.1,a.eval p.2))=vs.toArray:=by grind
 obtain ⟨fs,hu,hpl,hin⟩:=hS.out
 obtain ⟨i,hi,hz⟩:=hS.zero
 have hm:=qlq (P:=P) (w:=w) fs.toList hin
 rw[hpl] at hm
 have hm':(fs.mapM (fun f=>Functor.map (Prod.mk f.offset) (Go.sizeOf f.type)):Sem (Array (Nat×Nat))).run P w=.ok places.toArray w:=by
  rw[Array.mapM_eq_mapM_toList]
  simp_all
 generalize a.eval=ε at hpa ⊢
 simp only[execOp,hpa,Instr.build]
 have hfill':Instr.fill (fun x=>places.toArray[x]?) z.cells vs=some cells.toArray:=hfill
 generalize hq:(fs.mapM (fun f=>Functor.map (Prod.mk f.offset) (Go.sizeOf f.type)):Sem (Array (Nat×Nat)))=q at hm'
 simp[zeroValue,typeInfo,hi,hz,run_underlying hu,hq,hm']
 simp_all
theorem qyB {k:IntKind}{a b:Int}(hw:wants ops l ⟨some d,.call ⟨.builtin .min,#[x,y],tys⟩,t,pos,af,gd⟩=some true)(hx:ev l x=some (.int k a))(hy:ev l y=some (.int k b))(hd:Nat.blt d n=true)(h:SXO P ro n D M0 w0 Q ops rest ((d,.int k (imin a b))::l) B R F m r):SXO P ro n D M0 w0 Q ops (⟨some d,.call ⟨.builtin .min,#[x,y],tys⟩,t,pos,af,gd⟩::rest) l B R F m r :=
 qO _ hw rfl hd (fun a w hf _=>qrT (B:=[]) (F:=[]) hx hy n D a w hf ⟨by simp,by simp⟩) h
theorem qyA {k:IntKind}{a b:Int}(hw:wants ops l ⟨some d,.call ⟨.builtin .max,#[x,y],tys⟩,t,pos,af,gd⟩=some true)(hx:ev l x=some (.int k a))(hy:ev l y=some (.int k b))(hd:Nat.blt d n=true)(h:SXO P ro n D M0 w0 Q ops rest ((d,.int k (imax a b))::l) B R F m r):SXO P ro n D M0 w0 Q ops (⟨some d,.call ⟨.builtin .max,#[x,y],tys⟩,t,pos,af,gd⟩::rest) l B R F m r :=
 qO _ hw rfl hd (fun a w hf _=>qAz (B:=[]) (F:=[]) hx hy n D a w hf ⟨by simp,by simp⟩) h
theorem qC {m':Option ρ}(h:m=m')(hs:SXO P ro n D M0 w0 Q ops rest l B R F m' r):SXO P ro n D M0 w0 Q ops rest l B R F m r:=h▸hs
theorem qg {done di dj:Array Bool}(i j:Nat){oj:Oper}(hoi:ops[i]?=some oi)(hoj:ops[j]?=some oj)(hr:Region.ready .any ops done=[i,j])(hdi:done.setIfInBounds i true=di)(hdj:done.setIfInBounds j true=dj)(h1:SXO P ro n D M0 w0 (Exit.then (fun a w=>Sh ps Bs Fs di w∧anyK ro P ops Q (Sh ps Bs Fs) fuel di a w) Q) ops [oi] l B R F m r)(h2:SXO P ro n D M0 w0 (Exit.then (fun a w=>Sh ps Bs Fs dj w∧anyK ro P ops Q (Sh ps Bs Fs) fuel dj a w) Q) ops [oj] l B R F m r):SXB P ro ps n D M0 w0 Q ops Bs Fs (fuel+1) done l B R F m r:=by
 intro hm a w hf hp hS
 refine ⟨fun h0=>(by simp_all),fun q hq=>?_⟩
 have key:∀ (q:Nat) (o:Oper) (d':Array Bool),ops[q]?=some o→done.setIfInBounds q true=d' →
   SXO P ro n D M0 w0 (Exit.then (fun a w=>Sh ps Bs Fs d' w∧anyK ro P ops Q (Sh ps Bs Fs) fuel d' a w) Q) ops [o] l B R F m r →
   opK ro P ops Q q (fun a' w'=>Sh ps Bs Fs (done.setIfInBounds q true) w'∧anyK ro P ops Q (Sh ps Bs Fs) fuel (done.setIfInBounds q true) a' w') a w:=by
  intro q o d' ho hd h
  have h1:=h hm a w hf hp
  rw[hd]
  unfold kA wpListIn at h1
  unfold opK wpOpIn
  simp only[ho]
  split
  ·rename_i hw
   rw[if_pos hw] at h1
   refine ⟨fun _ _=>trivial,?_⟩
   exact Oper.uponIn_mono (fun a w h=>h) (fun c a w h=>h) (fun h=>h) _ h1.2
  ·rename_i hw
   rw[if_neg hw] at h1
   exact ⟨fun _ _=>trivial,h1.2⟩
 rw[hr] at hq
 rcases qBi.1 hq with rfl | hq
 ·exact key _ _ _ hoi hdi h1
 ·rcases qBi.1 hq with rfl | hq
  ·exact key _ _ _ hoj hdj h2
  simp_all
theorem vD {done di dj dk:Array Bool}(i j k:Nat){oj ok:Oper}(hoi:ops[i]?=some oi)(hoj:ops[j]?=some oj)(hok:ops[k]?=some ok)(hr:Region.ready .any ops done=[i,j,k])(hdi:done.setIfInBounds i true=di)(hdj:done.setIfInBounds j true=dj)(hdk:done.setIfInBounds k true=dk)(h1:SXO P ro n D M0 w0 (Exit.then (fun a w=>Sh ps Bs Fs di w∧anyK ro P ops Q (Sh ps Bs Fs) fuel di a w) Q) ops [oi] l B R F m r)(h2:SXO P ro n D M0 w0 (Exit.then (fun a w=>Sh ps Bs Fs dj w∧anyK ro P ops Q (Sh ps Bs Fs) fuel dj a w) Q) ops [oj] l B R F m r)(h3:SXO P ro n D M0 w0 (Exit.then (fun a w=>Sh ps Bs Fs dk w∧anyK ro P ops Q (Sh ps Bs Fs) fuel dk a w) Q) ops [ok] l B R F m r):SXB P ro ps n D M0 w0 Q ops Bs Fs (fuel+1) done l B R F m r:=by
 intro hm a w hf hp hS
 refine ⟨fun h0=>(by simp_all),fun q hq=>?_⟩
 have key:∀ (q:Nat) (o:Oper) (d':Array Bool),ops[q]?=some o→done.setIfInBounds q true=d' →
   SXO P ro n D M0 w0 (Exit.then (fun a w=>Sh ps Bs Fs d' w∧anyK ro P ops Q (Sh ps Bs Fs) fuel d' a w) Q) ops [o] l B R F m r →
   opK ro P ops Q q (fun a' w'=>Sh ps Bs Fs (done.setIfInBounds q true) w'∧anyK ro P ops Q (Sh ps Bs Fs) fuel (done.setIfInBounds q true) a' w') a w:=by
  intro q o d' ho hd h
  have h1:=h hm a w hf hp
  rw[hd]
  unfold kA wpListIn at h1
  unfold opK wpOpIn
  simp only[ho]
  split
  ·rename_i hw
   rw[if_pos hw] at h1
   refine ⟨fun _ _=>trivial,?_⟩
   exact Oper.uponIn_mono (fun a w h=>h) (fun c a w h=>h) (fun h=>h) _ h1.2
  ·rename_i hw
   rw[if_neg hw] at h1
   exact ⟨fun _ _=>trivial,h1.2⟩
 rw[hr] at hq
 rcases qBi.1 hq with rfl | hq
 ·exact key _ _ _ hoi hdi h1
 ·rcases qBi.1 hq with rfl | hq
  ·exact key _ _ _ hoj hdj h2
  ·rcases qBi.1 hq with rfl | hq
   ·exact key _ _ _ hok hdk h3
   simp_all
def cutv (ao:Option Addr)(c size:Nat)(L H:Int):Value:=.slice (if c=L.toNat then ao else ao.map (·.add (L.toNat*size))) (H.toNat-L.toNat) (c-L.toNat)
theorem qdo {ys:List α}{li hj:Int}(h:sub xs li hj=some ys):0≤li∧li≤hj∧hj≤xs.length∧ys=(xs.take hj.toNat).drop li.toNat:=by
 grind [sub]
theorem qp9 {x:Code}{enc:α→List Value}{size:Nat}{k:List α→Option ρ}{li hj:Int}(j:Nat)(henc:EncOk enc size)(hF:F[j]?=some (Sl enc size (.slice ao xs.length c) xs))(h:∀ ys,sub xs li hj=some ys→∀ a' c',cutv ao c size li hj=.slice a' ys.length c'→xs.length≤c→SXC P ro n D M0 w0 Q x l B R (Sl enc size (.slice a' ys.length c') ys::F) (k ys) r) :
  SXC P ro n D M0 w0 Q x l B R F ((sub xs li hj).bind k) r:=by
 intro hm a w hf hp
 cases hq:sub xs li hj with
 | none=>simp_all
 | some ys =>
  rw[hq] at hm
  have hm':k ys=some r:=by grind
  obtain ⟨b1,b2,b3,rfl⟩:=qdo hq
  obtain ⟨L,rfl⟩:=qBf b1
  obtain ⟨H,rfl⟩:=qBf (qDz b1 b2)
  have b2':L≤H:=by omega
  have b3':H≤xs.length:=by omega
  have hnec:=hp.per _ (qBe hF)
  have hcap:xs.length≤c:=by
   obtain ⟨⟨a1,c1,hv1,hn1,_⟩,_⟩:=(hnec.here:Cells (.slice ao xs.length c) xs.length size (xs.flatMap enc) w)
   simp_all
  have hl:((xs.take H).drop L).length=H-L:=by simp_all
  refine h _ hq (if c=L then ao else ao.map (·.add (L*size))) (c-L) (by grind [cutv]) hcap hm' _ _ hf (hp.addFact ?_)
  intro w' hk'
  obtain ⟨a2,c2,hv2,hc2⟩:=Cells.cut (hnec w' hk':Cells (.slice ao xs.length c) xs.length size (xs.flatMap enc) w') b2' b3'
  simp only[Value.slice.injEq] at hv2
  obtain ⟨rfl,-,rfl⟩:=hv2
  show Cells (.slice _ ((xs.take H).drop L).length _) ((xs.take H).drop L).length size (((xs.take H).drop L).flatMap enc) w'
  rw[hl,qja henc,qdh henc]
  omega
theorem qrt {c:Code}{enc:α→List Value}{v:Value}{e size:Nat}(i:Nat)(hR:R[i]?=some (Ro enc e size v xs))(h:SXC P ro n D M0 w0 Q c l B (R.eraseIdx i) (Sl enc size v xs::F) m r):SXC P ro n D M0 w0 Q c l B R F m r :=
 fun hm a w hf hp=>h hm a w hf (hp.freeze hR)
theorem qlY {ex:Exit}{enc:α→List Value}{v:Value}{e size:Nat}(i:Nat)(hR:R[i]?=some (Ro enc e size v xs))(h:SXQ n D M0 w0 Q ex l B (R.eraseIdx i) (Sl enc size v xs::F) m r):SXQ n D M0 w0 Q ex l B R F m r :=
 fun hm a w hf hp=>h hm a w hf (hp.freeze hR)
theorem qcD {ys:List α}{lo hi:Option Operand}{li hj:Int}{V:Value}{e:TypeId}{size:Nat}(ht:P.underlying t'=some (.slice e))(hT:TyF P e agg z size bytes)(hx:ev l x=some (.slice ao xs.length c))(hlo:evOpt l lo 0=some li)(hhi:evOpt l hi (xs.length:Int)=some hj)(hs:sub xs li hj=some ys)(hcap:xs.length≤c)(hv:cutv ao c size li hj=V) :
  Yv P l B F ⟨some d,.slice t' x lo hi none,t,pos,af,gd⟩ V:=by
 intro n D a w hf _
 obtain ⟨b1,b2,b3,_⟩:=qdo hs
 obtain ⟨L,rfl⟩:=qBf b1
 obtain ⟨H,rfl⟩:=qBf (qDz b1 b2)
 have b2':L≤H:=by omega
 have b3':H≤xs.length:=by omega
 subst hv
 have h1:=hf.ev hx
 have e1:=qdF hf hlo
 have e2:=qdF hf hhi
 have hb1:(H:Int)≤(c:Int):=by omega
 have hb0:(0:Int)≤(H:Int):=by omega
 have hb2:(L:Int)≤(H:Int):=by omega
 have hb3:(0:Int)≤(L:Int):=by omega
 have hn1:H≤c:=by omega
 generalize hε:a.eval=ε at h1 e1 e2 ⊢
 rcases e1 with ⟨k1,e1⟩ | ⟨rfl,e1⟩ <;> rcases e2 with ⟨k2,e2⟩ | ⟨rfl,e2⟩
 ·simp[execOp,h1,e1,e2,Instr.sliceAt,Instr.slice,Instr.sliceBounds,Instr.sliceBound,asIntOf,run_underlying ht,hT.run_size,hb0,hb3,hn1,b2',cutv]
 ·have:H=xs.length:=by omega
  subst this
  simp[execOp,h1,e1,Instr.sliceAt,Instr.slice,Instr.sliceBounds,Instr.sliceBound,asIntOf,run_underlying ht,hT.run_size,hb3,b2',cutv]
 ·have:L=0:=by omega
  subst this
  simp[execOp,h1,e2,Instr.sliceAt,Instr.slice,Instr.sliceBounds,Instr.sliceBound,asIntOf,run_underlying ht,hT.run_size,hb0,hn1,cutv]
 ·have:H=xs.length:=by omega
  subst this
  have:L=0:=by omega
  subst this
  simp[execOp,h1,Instr.sliceAt,Instr.slice,Instr.sliceBounds,run_underlying ht,hT.run_size,cutv]
def v8 (ks:List Nat)(Q:Exit→Act→World→Prop):Exit→Act→World→Prop
 | .panic c,a,w=>∀ t':Array Value,t'.size=a.tmps.size→(∀ k∈ks,t'[k]?=a.tmps[k]?)→Q (.panic c) { a with tmps:=t' } w
 | e,a,w=>Q e a w
theorem qge {ks:List Nat}{c:List PanicEntry}{v:Value}(hd:ks.contains d=false)(h:v8 ks Q (.panic c) (a.put (some d) v) w):v8 ks Q (.panic c) a w :=
 fun t' hs hk=>h t' (by grind [Act.put]) fun k hkm=>by
  rw[hk k hkm]
  have hne:d≠k:=by grind
  grind [Act.put]
variable {ks:List Nat}
theorem qj8 {id:Nat}{os:List Oper}(hm:P.follows .mixedOrders=true)(ks:List Nat)(ps:List Nat)(Bs:List BlkD)(Fs:List (World→Prop))(hB:Pick B Bs)(hF:∀ φ∈Fs,φ∈F∨(∃ rd∈R,∀ w,Cells rd.v rd.n rd.size rd.cs w→φ w)∨∃ b∈B,∀ w,b.is w→φ w)(k:Nat)(hk:os.length=k)(h:SXB P ro ps n D M0 w0 (v8 ks Q) os.toArray Bs Fs k (Array.replicate k false) l B R F m r):SXC P ro n D M0 w0 Q (.region id os.toArray true) l B R F m r:=by
 intro hmm a w hf hp
 refine qjh (Q:=v8 ks Q) (wpIn_region_any hm ?_) fun e a w hq=>?_
 ·have hp':Hp M0 w0 { w with drawn:=w.drawn+1 } B R F:=hp.step (Keeps.of_heap rfl rfl rfl rfl)
  have:=h hmm a _ hf hp' ⟨(qdn hp' hB hF).1,fun _=>(qdn hp' hB hF).2⟩
  grind [qiy]
 ·cases e <;> first | exact hq | exact hq a.tmps rfl fun _ _=>rfl
theorem qdJ {done:Array Bool}(i:Nat)(V:Value)(ho:ops[i]?=some o)(hd:o.dst=some d)(hw:wants ops l o=some true)(hy:Yv P l Bs [] o V)(hkd:ks.contains d=false)(h:SXB P ro ps n D M0 w0 (v8 ks Q) ops Bs Fs fuel (done.setIfInBounds i true) ((d,V)::l) B R F m r)(hk:okP ops ps done i d n=true:=by kernel_rfl):SXB P ro ps n D M0 w0 (v8 ks Q) ops Bs Fs (fuel+1) done l B R F m r:=by
 intro hm a w hf hp hS
 obtain ⟨hca,hs,hfr,hr,hcl,hni,hdn⟩:=qgW hk
 refine qcA (S:=Sh ps Bs Fs) (T:=fun w=>∀ b∈Bs,b.is w) (v:=V) ho hca (Region.noSelect_spec hs) (fun c a w h=>by grind [qge]) (fun _ _ _ _ h=>h.1) (fun _ _ h=>(Sh.set hni).1 h) (fun _ _ h=>(Sh.set hni).2 h) fuel done a w (Region.free_spec ho hfr) (by grind) (qdE hcl)
  (.inl ⟨zo hf hw,fun w' h=>hy n D a w' hf ⟨h,by simp⟩⟩) hS ?_
 rw[hd]
 exact h hm _ _ (hf.put hdn _) hp ((Sh.set hni).2 hS)
theorem kw {done:Array Bool}(i:Nat)(V:Value)(ho:ops[i]?=some o)(hd:o.dst=some d)(hw:wants ops l o=some true)(hy:Yv P l [] [] o V)(hkd:ks.contains d=false)(h:SXB P ro ps n D M0 w0 (v8 ks Q) ops Bs Fs fuel (done.setIfInBounds i true) ((d,V)::l) B R F m r)(hk:okP ops ps done i d n=true:=by kernel_rfl):SXB P ro ps n D M0 w0 (v8 ks Q) ops Bs Fs (fuel+1) done l B R F m r:=by
 intro hm a w hf hp hS
 obtain ⟨hca,hs,hfr,hr,hcl,hni,hdn⟩:=qgW hk
 refine qcA (S:=Sh ps Bs Fs) (T:=fun _=>True) (v:=V) ho hca (Region.noSelect_spec hs) (fun c a w h=>by grind [qge]) (fun _ _ _ _ _=>trivial) (fun _ _ h=>(Sh.set hni).1 h) (fun _ _ h=>(Sh.set hni).2 h) fuel done a w (Region.free_spec ho hfr) (by grind) (qdE hcl)
  (.inl ⟨zo hf hw,fun w' _=>hy n D a w' hf ⟨by simp,by simp⟩⟩) hS ?_
 rw[hd]
 exact h hm _ _ (hf.put hdn _) hp ((Sh.set hni).2 hS)
theorem jb {done:Array Bool}(i:Nat)(ho:ops[i]?=some o)(hd:o.dst=some d)(hw:wants ops l o=some false)(hkd:ks.contains d=false)(h:SXB P ro ps n D M0 w0 (v8 ks Q) ops Bs Fs fuel (done.setIfInBounds i true) ((d,undef)::l) B R F m r)(hk:okP ops ps done i d n=true:=by kernel_rfl):SXB P ro ps n D M0 w0 (v8 ks Q) ops Bs Fs (fuel+1) done l B R F m r:=by
 intro hm a w hf hp hS
 obtain ⟨hca,hs,hfr,hr,hcl,hni,hdn⟩:=qgW hk
 refine qcA (S:=Sh ps Bs Fs) (T:=fun _=>True) (v:=undef) ho hca (Region.noSelect_spec hs) (fun c a w h=>by grind [qge]) (fun _ _ _ _ _=>trivial) (fun _ _ h=>(Sh.set hni).1 h) (fun _ _ h=>(Sh.set hni).2 h) fuel done a w (Region.free_spec ho hfr) (by grind) (qdE hcl)
  (.inr ⟨zo hf hw,rfl⟩) hS ?_
 rw[hd]
 exact h hm _ _ (hf.put hdn _) hp ((Sh.set hni).2 hS)
theorem qrG {e:Exit}(h:SXQ n D M0 w0 Q e l B R F m r)(he:∀ c,e≠.panic c):SXQ n D M0 w0 (v8 ks Q) e l B R F m r:=by
 intro hm a w hf hp
 have:=h hm a w hf hp
 cases e <;> first | exact this | simp_all
theorem qq7:∀ p∈([]:Env),ks.contains p.1=true∧look l p.1=some p.2:=by simp
theorem qhO {k:Nat}{v:Value}{q:Env}(hk:ks.contains k=true)(h:look l k=some v)(hr:∀ p∈q,ks.contains p.1=true∧look l p.1=some p.2):∀ p∈((k,v)::q),ks.contains p.1=true∧look l p.1=some p.2:=by
 grind
theorem qoC {l':Env}(hl:∀ p∈l',ks.contains p.1=true∧look l p.1=some p.2)(h:SXQ n D M0 w0 Q (.panic ch) l' B R F m r):SXQ n D M0 w0 (v8 ks Q) (.panic ch) l B R F m r:=by
 intro hm a w hf hp t' hs hk
 refine h hm { a with tmps:=t' } w ⟨hf.defers,by show t'.size=n;rw[hs];exact hf.size,fun i v hv=>?_⟩ hp
 have key:∀ (q:Env),(∀ p∈q,ks.contains p.1=true∧look l p.1=some p.2)→look q i=some v→ks.contains i=true∧look l i=some v:=by
  intro q
  induction q with
  | nil=>grind [look]
  | cons p q ih =>
   grind [qag]
 obtain ⟨h1,h2⟩:=key l' hl hv
 show t'[i]?=some v
 rw[hk i (by grind)]
 exact hf.val i v h2
def qmw (P:Program)(f:FuncId)(args:Array Value):Prop :=
 ∀ w,CallsD P f args .returning w fun e u' w'=>e=.returned (.tuple #[])∧u'=.returning∧w'=w
def qmx (P:Program)(f:FuncId)(args:Array Value)(T:TypeId)(v:Value)(B0 B1:List BlkD):Prop :=
 ∀ w,Hp (muts B0 []) w w B0 [] []→CallsD P f args (.panicking [{ v:=.iface T v,recovered:=false }]) w fun e u' w' =>
  e=.returned (.tuple #[])∧u'=.panicking [{ v:=.iface T v,recovered:=true }]∧Hp (muts B0 []) w w' B1 [] []
abbrev clo (f:FuncId) (first cap:Array Value):Deferred:={ target:=.fn (.func f) cap,args:=first }
theorem quf (hx:ev l x=some (.func (.func f) first cap))(hd:dst=none)(h:SXO P none n (clo f first cap::D) M0 w0 Q ops rest l B R F m r):SXO P none n D M0 w0 Q ops (⟨dst,.defer ⟨.value x,#[],tys⟩,t,pos,af,none⟩::rest) l B R F m r:=by
 subst hd
 intro hm a w hf hp
 have h1:(execOp a.eval ⟨none,.defer ⟨.value x,#[],tys⟩,t,pos,af,none⟩).run P w=.ok (.defer (clo f first cap)) w:=by
  have h1:=hf.ev hx
  generalize a.eval=ε at h1 ⊢
  simp[execOp,resolve,h1,Deferred.ofValue]
 unfold kA wpListIn
 rw[if_pos (by rfl)]
 refine ⟨fun _ _=>trivial,?_⟩
 show Oper.uponIn _ _ _ _ _ _ _ ((execOp a.eval ⟨none,.defer ⟨.value x,#[],tys⟩,t,pos,af,none⟩).run P w)
 rw[h1,Oper.uponIn_defer]
 refine h hm _ w ⟨?_,hf.size,fun i v hv=>hf.val i v hv⟩ hp
 show clo f first cap::a.defers=_
 rw[hf.defers]
theorem qv5 {c:Code}{γ:Type}{V:γ→Value}{B1:γ→List BlkD}{R1:γ→List RowD}(hfn:P.funcs[f]?=some fn)(hb:fn.body=some c)(hn:fn.ntmps=N)(hvl:Nat.ble vs.length N=true)(hm:m=some r)(h:∀ w,SXC P none N [] (muts B0 R0) w (bodyPostD P fn fun e w'=>∃ g:γ,e=.returned (V g)∧Hp (muts B0 R0) w w' (B1 g) (R1 g) []) c (vs.zipIdx.map fun p=>(p.2,p.1)) B0 R0 Φ m r):PureM P f vs B0 R0 Φ γ V B1 R1:=by
 intro w hp
 refine calls_of_wp_defers hfn hb (qhx.1 (h w hm _ w ?_ hp))
 have hvl':vs.length≤N:=by simp_all
 refine ⟨rfl,by simp_all,fun i v hv=>?_⟩
 have key:∀ (vs:List Value) (k i:Nat) (v:Value),look ((vs.zipIdx k).map fun p=>(p.2,p.1)) i=some v→k≤i∧vs[i-k]?=some v:=by
  intro vs
  induction vs with
  | nil=>intro k i v hv;simp[look] at hv
  | cons u vs ih =>
   intro k i v hv
   simp only[qCu,qBU] at hv
   rw[qag] at hv
   split at hv
   ·simp_all
   grind
 grind
theorem qrH {Rp:Ending→World→Prop}{e:Exit}(he:e=.ret∨e=.normal)(hE:Enters P f)(ha:first++cap=args)(hi:qmw P f args)(h:SXQ n [] M0 w0 (bodyPost P fn Rp) .ret l B R F m r):SXQ n [clo f first cap] M0 w0 (bodyPostD P fn Rp) e l B R F m r:=by
 intro hm a w hf hp
 have h2:Leaves P fn a.tmps Rp [clo f first cap] .returning w:=by
  refine leaves_cons (f:=f) (args:=args) (by simp) ?_ ((hi w).mono ?_)
  ·subst ha;exact hE _ w
  ·rintro e u' w' ⟨rfl,rfl,rfl⟩
   exact (h hm { tmps:=a.tmps,defers:=[] } w' ⟨rfl,hf.size,hf.val⟩ hp).2
 rcases he with rfl | rfl
 ·show Leaves P fn a.tmps Rp a.defers .returning w
  rw[hf.defers];omega
 ·show Leaves P fn a.tmps Rp a.defers .returning w
  rw[hf.defers];omega
theorem qfB {Rp:Ending→World→Prop}{v:Value}{B1:List BlkD}(hE:Enters P f)(ha:first++cap=args)(hB:Takes B B0 BS)(hi:qmx P f args T v B0 B1)(h:SXQ n [] M0 w0 (bodyPost P fn Rp) .ret l (B1++BS) R F m r):SXQ n [clo f first cap] M0 w0 (bodyPostD P fn Rp) (.panic [{ v:=.iface T v,recovered:=false }]) l B R F m r:=by
 intro hm a w hf hp
 show Leaves P fn a.tmps Rp a.defers (.panicking [{ v:=.iface T v,recovered:=false }]) w
 rw[hf.defers]
 have hp':=hp.perm hB.perm (qBF R)
 have hst:Hp (muts B0 []) w w B0 [] []:=by
  have:=Hp.startM (R0:=[]) (RS:=R) (Φ:=[]) (by simpa using hp') (by simp)
  omega
 refine leaves_cons (f:=f) (args:=args) (by simp) ?_ ((hi w hst).mono ?_)
 ·subst ha;exact hE _ w
 ·rintro e u' w' ⟨rfl,rfl,h3⟩
  have h4:=Hp.callM (R0:=[]) (RS:=R) (by simpa using hp') h3
  exact (h hm { tmps:=a.tmps,defers:=[] } w' ⟨rfl,hf.size,hf.val⟩ (by grind)).2
theorem qui {v:Value}(hw:wants ops l ⟨some d,.makeInterface T x,t,pos,af,gd⟩=some true)(hx:ev l x=some v)(hT:∀ w,(Instr.makeInterface T v).run P w=.ok (.iface T v) w)(hd:Nat.blt d n=true)(h:SXO P ro n D M0 w0 Q ops rest ((d,.iface T v)::l) B R F m r):SXO P ro n D M0 w0 Q ops (⟨some d,.makeInterface T x,t,pos,af,gd⟩::rest) l B R F m r :=
 qO _ hw rfl hd (fun a w hf _=>by
  have h1:=hf.ev hx
  have h2:=hT w
  generalize a.eval=ε at h1 ⊢
  generalize hq:Instr.makeInterface T v=q at h2
  simp[execOp,h1,hq,h2]) h
theorem qou {v:Value}(hw:wants ops l ⟨some d,.typeAssert x xt T true,t,pos,af,gd⟩=some true)(hx:ev l x=some (.iface T v))(hT:∀ w,(Instr.typeAssert (.iface T v) xt T true).run P w=.ok (.tuple #[v,.bool true]) w)(hd:Nat.blt d n=true)(h:SXO P ro n D M0 w0 Q ops rest ((d,.tuple #[v,.bool true])::l) B R F m r):SXO P ro n D M0 w0 Q ops (⟨some d,.typeAssert x xt T true,t,pos,af,gd⟩::rest) l B R F m r :=
 qO _ hw rfl hd (fun a w hf _=>by
  have h1:=hf.ev hx
  have h2:=hT w
  generalize a.eval=ε at h1 ⊢
  generalize hq:Instr.typeAssert (.iface T v) xt T true=q at h2
  simp[execOp,h1,hq,h2]) h
theorem qqf {yt:TypeId}{v:Value}(hw:wants ops l ⟨some d,.binOp .eql xt x y yt,t,pos,af,gd⟩=some true)(hx:ev l x=some (.iface T v))(hy:ev l y=some .nilIface)(hE:∀ w,(do eqGuard .eql xt x y (.iface T v) .nilIface;binOp .eql xt (.iface T v) .nilIface:Sem Value).run P w=.ok (.bool false) w)(hd:Nat.blt d n=true)(h:SXO P ro n D M0 w0 Q ops rest ((d,.bool false)::l) B R F m r):SXO P ro n D M0 w0 Q ops (⟨some d,.binOp .eql xt x y yt,t,pos,af,gd⟩::rest) l B R F m r :=
 qO _ hw rfl hd (fun a w hf _=>by
  have h1:=hf.ev hx
  have h3:=hf.ev hy
  have h2:=hE w
  generalize a.eval=ε at h1 h3 ⊢
  generalize hq:(do eqGuard .eql xt x y (.iface T v) .nilIface;binOp .eql xt (.iface T v) .nilIface:Sem Value)=q at h2
  simp only[execOp,h1,h3]
  simp_all) h
end SX
namespace SX
open Go Go.ChangeShapes Go.WideShapes Go.ChangeAt Go.RowKit
set_option linter.unusedSectionVars false
variable [DM]
variable {H:Type}{enc:TypeId×Value→H}{P:Program}
theorem qie (hl:laidOutB P=true){W W':World}(hb:Below W.heap.size W W'){sp:Nat→Bool}:∀ {ts:List TypeId} {vs:List Value} {ds:List (DataW H)} {ps:List MemPlace},
  (ts.all fun t=>P.readableRec t && Nat.blt t P.types.size)=true→DataW.TrodAll enc P W 0 (fun _=>true) true ts vs ds ps→(∀ x∈ps,x.block<W.heap.size)→(∀ x∈ps,sp x.block=true) →
  DataW.TrodAll enc P W' 0 sp true ts vs ds ps
 | [],vs,ds,ps,_,h,_,_=>by
  obtain ⟨rfl,rfl,rfl⟩:=trodAll_nil h
  exact h
 | t::ts,vs,ds,ps,hts,h,hlt,hsp=>by
  obtain ⟨v,vs',d,ds',p,q,rfl,rfl,rfl,h1,h2⟩:=trodAll_cons h
  simp only[List.all_cons,qBY] at hts
  have hrow:t<P.types.size:=by simp_all
  exact ⟨p,q,WideElems.Trod_stays hl hts.1.1 hrow h1 (fun x hx=>hb.same (hlt x (qBg.2 (.inl hx)))) (fun x hx=>hsp x (qBg.2 (.inl hx))),
   qie hl hb (by simp_all) h2 (fun x hx=>hlt x (qBg.2 (.inr hx))) (fun x hx=>hsp x (qBg.2 (.inr hx))),rfl⟩
theorem qgz {W:World}{v:Value}{n size:Nat}{cs:List Value}(h:Cells v n size cs W)(hb:∀ a len cap,v=.slice (some a) len cap→cs≠[]→a.block<W.heap.size):Nec W [] (Cells v n size cs):=by
 intro w' hk
 obtain ⟨⟨a,cap,rfl,h1,h2,h3,h4⟩,hl⟩:=h
 refine ⟨⟨a,cap,rfl,h1,h2,h3,fun j u hj=>?_⟩,hl⟩
 obtain ⟨ad,rfl,hc⟩:=h4 j u hj
 refine ⟨ad,rfl,?_⟩
 have hlt:=hb ad n cap rfl (by grind)
 have:=hk.block ad.block hlt (by simp)
 grind [World.cell?]
theorem qx3 {W:World}:∀ ψ∈([]:List (World→Prop)),Nec W [] ψ:=by simp
variable {cur:Array Value}{f:FuncId}{ki kn:IntKind}{Φ:List (World→Prop)}{ys:List Int}{R':List RowD}{c esz j k lim off:Nat}{ix x:Operand}{ao:Option Addr}{β:Type}{V:Value}
theorem qpG {W:World}{φ:World→Prop}(h:Nec W [] φ)(hr:∀ ψ∈Φ,Nec W [] ψ):∀ ψ∈φ::Φ,Nec W [] ψ:=by
 simp_all
theorem qvt {f:Func}{s:ChangeSpec}{apart fresh:Bool}{W W':World}{args:Array Value}{ds gs:List (DataW H)}{before:List MemPlace}{tb:TypeId}(hl:laidOutB P=true)(hts:(f.params.toList.all fun t=>P.readableRec t && Nat.blt t P.types.size)=true)(hrt:f.resultTypes=#[tb])(hb:P.underlying tb=some .bool)(hv:s.vars=[])(hW:DataW.Whole enc P f.params.toList s.vars apart W args.toList ds gs before)(hs:s.fn H (ds++gs)={ results:=[.lit (.bool true)],args:=ds })(hk:Keeps [] W W') :
  s.post enc P f apart fresh false false W args (.bool true) W':=by
 have hlt:=hW.lt
 have hW0:=hW
 obtain ⟨p,q,hA,hV,rfl,hfz,hnd⟩:=hW
 rw[hv] at hV
 obtain ⟨rfl,rfl⟩:=trodVars_none hV
 have hbl:=hk.below
 refine ⟨ds,[],p++[],[],p,[],hW0,?_,?_,?_,?_,fun h=>by cases h⟩
 ·rw[hrt,hs]
  exact trodAll_mk1 (shut_bool hb true)
 ·grind [qie]
 ·rw[hv,hs]
  trivial
 ·exact hbl.frame _
variable {M0:List Nat}{w0 w:World}{B:List BlkD}{R:List RowD}{F:List (World→Prop)}
theorem Hp.permM {B':List BlkD}(h:Hp M0 w0 w B R F)(hb:∀ b∈B',b.is w)(hr:∀ r∈R',r.owns w)(hp:(muts B R).Perm (muts B' R')):Hp M0 w0 w B' R' F :=
 { keep:=h.keep,blk:=hb,rows:=hr,nodup:=hp.nodup_iff.1 h.nodup,fresh:=fun g hg=>h.fresh g (hp.mem_iff.2 hg),per:=fun φ hφ=>(h.per φ hφ).less (fun _ hk=>hp.mem_iff.2 hk) }
theorem qmo {α:Type}{f:α→β}{xs:List α}{i:Nat}{x:α}(hi:xs[i]?=some x):(xs.map f).Perm (f x::(xs.eraseIdx i).map f):=by
 obtain ⟨A,C,rfl,he⟩:=qel hi
 simp_all
theorem qpr {xs:List RowD}{i:Nat}{x:RowD}{g:Nat}(hi:xs[i]?=some x)(hx:x.blocks=[g]):(xs.flatMap RowD.blocks).Perm (g::(xs.eraseIdx i).flatMap RowD.blocks):=by
 obtain ⟨A,C,rfl,he⟩:=qel hi
 simp_all
theorem Hp.b2r {α:Type}{enc:α→List Value}{size i g e:Nat}{xs:List α}(henc:EncOk enc size)(h:Hp M0 w0 w B R F)(hi:B[i]?=some ⟨g,e,xs.flatMap enc⟩)(hn:xs.length=k)(hk:k≤maxLen) :
  Hp M0 w0 w (B.eraseIdx i) (Ro enc e size (.slice (some ⟨g,0,none⟩) xs.length k) xs::R) F:=by
 refine h.permM (fun b hb=>h.blk b (List.mem_of_mem_eraseIdx hb)) (fun r hr=>?_) ?_
 ·rcases qBi.1 hr with rfl | hr
  ·have hb:w.heap[g]?=some (.cells (xs.flatMap enc).toArray e (0,0)):=h.blk _ (qBe hi)
   refine RowD.owns_one (r:=Ro enc e size (.slice (some ⟨g,0,none⟩) xs.length k) xs) ⟨qU henc xs,.inr ⟨g,k,(xs.flatMap enc).toArray,rfl,qBC _,hb,?_,hk,?_,?_⟩⟩ rfl
   ·show xs.length≤k;omega
   ·show (xs.flatMap enc).toArray.size=k*size
    grind [qU]
   ·show (xs.flatMap enc).toArray.toList.take (xs.length*size)=xs.flatMap enc
    grind [qU]
  ·exact h.rows r hr
 ·have h1:=qmo (f:=fun b:BlkD=>b.g) hi
  unfold muts
  refine (h1.append_right _).trans ?_
  exact (qCe (l₁:=(B.eraseIdx i).map (·.g)) (l₂:=R.flatMap RowD.blocks) (a:=g)).symm
theorem Hp.r2b {α:Type}{enc:α→List Value}{size g e:Nat}{xs:List α}(h:Hp M0 w0 w B R F)(hj:R[j]?=some (Ro enc e size (.slice (some ⟨g,0,none⟩) xs.length k) xs))(hn:xs.length=k) :
  Hp M0 w0 w (⟨g,e,xs.flatMap enc⟩::B) (R.eraseIdx j) F:=by
 have hown:=h.row _ (qBe hj)
 rcases hown.2 with ⟨h5,_⟩ | ⟨g',cap,cur,h5,_,hgg,_,_,hcs,htake⟩
 ·have h5':Value.slice (some ⟨g,0,none⟩) xs.length k=.slice none 0 0:=h5
  simp_all
 ·have h5':Value.slice (some ⟨g,0,none⟩) xs.length k=.slice (some ⟨g',0,none⟩) xs.length cap:=h5
  simp only[Value.slice.injEq,qBl,Addr.mk.injEq,true_and,and_true] at h5'
  obtain ⟨rfl,rfl⟩:=h5'
  have hcs':cur.size=k*size:=hcs
  have htake':cur.toList.take (xs.length*size)=xs.flatMap enc:=htake
  have hgg':w.heap[g]?=some (.cells cur e (0,0)):=hgg
  have hcur:cur=(xs.flatMap enc).toArray:=by
   grind
  refine h.permM (fun b hb=>?_) (fun r hr=>h.rows r (List.mem_of_mem_eraseIdx hr)) ?_
  ·rcases qBi.1 hb with rfl | hb
   ·show w.heap[g]?=some (.cells (xs.flatMap enc).toArray e (0,0))
    grind
   ·exact h.blk b hb
  ·have h1:=qpr (g:=g) hj rfl
   grind [muts]
variable {ro:Option Nat}{n:Nat}{D:List Deferred}{Q:Exit→Act→World→Prop}{ops:Array Oper}{rest:List Oper}{l:Env}{ρ:Type}{m:Option ρ}{r:ρ}
variable {d:Nat}{t t' e:TypeId}{pos:String}{af:Array Edge}{gd:Option (Nat×Bool)}{agg:Bool}{z:Value}{size bytes:Nat}
theorem qov {α:Type}{enc:α→List Value}{i g:Nat}{xs:List α}(henc:EncOk enc size)(hi:B[i]?=some ⟨g,e,xs.flatMap enc⟩)(hn:xs.length=k)(hk:Nat.ble k maxLen=true)(h:SXO P ro n D M0 w0 Q ops rest l (B.eraseIdx i) (Ro enc e size (.slice (some ⟨g,0,none⟩) xs.length k) xs::R) F m r):SXO P ro n D M0 w0 Q ops rest l B R F m r :=
 fun hm a w hf hp=>h hm a w hf (hp.b2r henc hi hn (qBS hk))
theorem qta {α:Type}{enc:α→List Value}{g:Nat}{xs:List α}(hj:R[j]?=some (Ro enc e size (.slice (some ⟨g,0,none⟩) xs.length k) xs))(hn:xs.length=k)(h:SXO P ro n D M0 w0 Q ops rest l (⟨g,e,xs.flatMap enc⟩::B) (R.eraseIdx j) F m r):SXO P ro n D M0 w0 Q ops rest l B R F m r :=
 fun hm a w hf hp=>h hm a w hf (hp.r2b hj hn)
theorem qrw {parts:Array (Nat×Operand)}{vs:List (Nat×Value)}{cells:List Value}{nn ns nb:Nat}{zc:Value}{ag:Bool}(hw:wants ops l ⟨some d,.build t' parts,t,pos,af,gd⟩=some true)(ht:P.underlying t'=some (.array nn e))(hZ:TyF P t' ag zc ns nb)(hT:TyF P e agg z size bytes)(hp:evParts l parts.toList=some vs)(hfill:Instr.fill (fun i=>some (i*size,size)) zc.cells vs=some cells.toArray)(hd:Nat.blt d n=true)(h:SXO P ro n D M0 w0 Q ops rest ((d,.agg cells.toArray)::l) B R F m r):SXO P ro n D M0 w0 Q ops (⟨some d,.build t' parts,t,pos,af,gd⟩::rest) l B R F m r :=
 qO _ hw rfl hd (fun a w hf _=>by
  have hpe:=hf.evParts hp
  have hpa:(parts.map fun p=>(p.1,a.eval p.2))=vs.toArray:=by grind
  obtain ⟨i,hi,hz,_,_⟩:=hZ.inf
  generalize a.eval=ε at hpa ⊢
  simp only[execOp,hpa,Instr.build]
  simp[zeroValue,typeInfo,hi,hz,run_underlying ht,hT.run_size,hfill]) h
theorem qwL {x:Code}:SXC P ro n D M0 w0 Q x l B R F (none:Option ρ) r:=fun hm=>by grind
theorem qrz {xs:List Int}{k:Int→Option ρ}{i:Int}{N:Nat}(hw:wants ops l ⟨some d,.index t' x ix,t,pos,af,gd⟩=some true)(ht:P.underlying t'=some (.array N e))(hT:TyF P e false z 1 bytes)(hx:ev l x=some (.agg (xs.flatMap (eI kn)).toArray))(hi:ev l ix=some (.int ki i))(hn:xs.length=N)(hd:Nat.blt d n=true)(h:∀ y,idx xs i=some y→SXO P ro n D M0 w0 Q ops rest ((d,.int kn y)::l) B R F (k y) r) :
  SXO P ro n D M0 w0 Q ops (⟨some d,.index t' x ix,t,pos,af,gd⟩::rest) l B R F ((idx xs i).bind k) r:=by
 refine k7 hw fun hm a w hf hp=>?_
 cases hq:idx xs i with
 | none=>simp_all
 | some y =>
  rw[hq] at hm
  have hm':k y=some r:=by grind
  obtain ⟨h0,hlt,hy⟩:=qu hq
  have h1:=hf.ev hx
  have h2:=hf.ev hi
  have hlt':i<(N:Int):=by omega
  have e1:xs.flatMap (eI kn)=xs.map (Value.int kn):=by
   clear hx h1 hn hq hlt hy hm h
   induction xs with
   | nil=>rfl
   | cons x xs ih=>rw[qBz,ih];rfl
  have hc:(xs.flatMap (eI kn)).toArray[i.toNat]?=some (.int kn y):=by
   simp_all
  refine ⟨.int kn y,w,?_,h y hq hm' _ _ (hf.put hd _) hp⟩
  generalize a.eval=ε at h1 h2 ⊢
  generalize (xs.flatMap (eI kn)).toArray=cs at hc h1
  simp[execOp,h1,h2,Instr.index,asIntOf,run_underlying ht,hT.run_size,h0,hlt',part,hT.run_isAgg,hc]
theorem qzx {cs:List Value}(h:cs.length=k):((cs.drop 0).take k).length=k:=by simp_all
theorem qzw {cs:List Value}(h:cs.length=k):(if true=true then Value.agg ((cs.drop 0).take k).toArray else ((cs.drop 0).take k).getD 0 undef)=.agg cs.toArray:=by grind
theorem qgQ {xs:List Int}(h:xs.length=k):(xs.flatMap (eI kn)).length=k:=by rw[qU (qD kn) xs,qB4,h]
theorem qzA {cs:List Value}(h:cs.length=k)(hy:ys.length=k):cs.take 0++(Value.agg (ys.flatMap (eI kn)).toArray).cells.toList++cs.drop (0+(Value.agg (ys.flatMap (eI kn)).toArray).cells.size)=ys.flatMap (eI kn):=by
 have h1:=qgQ (kn:=kn) hy
 have h2:(Value.agg (ys.flatMap (eI kn)).toArray).cells=(ys.flatMap (eI kn)).toArray:=rfl
 simp_all
theorem qzz:qd6 (Value.agg (ys.flatMap (eI kn)).toArray).cells.toList=true:=by
 show (ys.flatMap (eI kn)).all (·.oneCell')=true
 rw[qBQ]
 intro v hv
 obtain ⟨y,_,hy⟩:=qB1.1 hv
 exact qBQ.1 ((qD kn).ok y) v hy
theorem qzy {xs:List Int}(hn:xs.length=k)(hy:ys.length=k):decide (0+(Value.agg (ys.flatMap (eI kn)).toArray).cells.size≤(xs.flatMap (eI kn)).length)=true:=by
 have h1:=qgQ (kn:=kn) hn
 have h2:=qgQ (kn:=kn) hy
 have h3:(Value.agg (ys.flatMap (eI kn)).toArray).cells.size=(ys.flatMap (eI kn)).length:=rfl
 simp_all
theorem qzB (h:ys.length=k):(Value.agg (ys.flatMap (eI kn)).toArray).cells.size=k:=by
 show (ys.flatMap (eI kn)).toArray.size=k
 rw[qB6,qgQ h]
theorem qiA (k:IntKind):∀ xs:List Int,xs.flatMap (eI k)=xs.map (Value.int k)
 | []=>rfl
 | x::xs=>by rw[qBz,qiA k xs];rfl
theorem qgi {zs:List Int}(h:zs.length≤cur.size):(Go.Sort.putCells (Value.int .i64) 0 zs.toArray cur).toList.take zs.length=zs.map (Value.int .i64):=by
 apply qBO
 intro j
 unfold Go.Sort.putCells
 grind
theorem qgh {d:Array Int}{o:Nat}:(Go.Sort.putCells (Value.int .i64) o d cur).size=cur.size:=by simp[Go.Sort.putCells]
theorem qj2 {g e:Nat}{fz:Nat×Nat}{d:Array Int}(h:w.heap[g]?=some (.cells cur e fz)):(Go.Sort.putRow (Value.int .i64) w g 0 d).heap[g]?=some (.cells (Go.Sort.putCells (Value.int .i64) 0 d cur) e fz):=by
 unfold Go.Sort.putRow Go.Sort.mapBlock
 show (w.heap.modify g _)[g]?=_
 rw[Array.getElem?_modify,if_pos rfl,h]
 rfl
theorem qoh {g:Nat}{d:Array Int}(h:k≠g):(Go.Sort.putRow (Value.int .i64) w g 0 d).heap[k]?=w.heap[k]?:=by
 grind [Go.Sort.putRow,Go.Sort.mapBlock]
theorem qgZ {g:Nat}{d:Array Int}{os:Array Obj}:Keeps [g] w (Go.Sort.grow (Go.Sort.putRow (Value.int .i64) (Go.Sort.ahead w n) g 0 d) os):=by
 have hs:(Go.Sort.putRow (Value.int .i64) (Go.Sort.ahead w n) g 0 d).heap.size=w.heap.size:=by
  simp
 refine ⟨rfl,rfl,rfl,?_,fun k hk hn=>?_,fun _=>Nat.le_add_right _ _⟩
 ·simp
 ·show ((Go.Sort.putRow (Value.int .i64) (Go.Sort.ahead w n) g 0 d).heap++os)[k]?=_
  rw[Array.getElem?_append_left (by omega),qoh (by grind)]
  rfl
theorem row_holds {g:Nat}{xs:List Int}(h:w.heap[g]?=some (.cells cur e (0,0)))(ht:cur.toList.take xs.length=xs.map (Value.int .i64)):Go.Sort.Holds (Value.int .i64) w g 0 xs.toArray:=by
 intro j hj
 have hj':j<xs.length:=by omega
 have h1:cur[j]?=some (Value.int .i64 xs[j]):=by
  have:=congrArg (fun l=>l[j]?) ht
  grind
 refine ⟨?_,?_⟩
 ·rw[qB0]
  grind [World.cell?]
 grind [World.frozen?]
def srt (xs:List Int):List Int:=isF (fun x y=>decide (x<y)) xs
theorem qhV (xs:List Int):(srt xs).length=xs.length:=(qhy _ xs).length_eq
theorem qna (l:List Int):(srt l).Perm l:=qhy _ l
theorem qs5 (l:List Int):(srt l).Pairwise (·≤·) :=
 (qq2 (lt:=fun x y:Int=>decide (x<y)) (S:=fun _=>True) (fun a b d _ _ _ h1 h2=>by grind) (fun a b _ _ h=>by grind) l fun _ _=>trivial).imp fun h=>by grind
theorem qAh (l:List Int):(l.mergeSort fun x y=>decide (x≤y))=srt l:=by
 have h:=List.pairwise_mergeSort (le:=fun x y:Int=>decide (x≤y)) (fun a b c h1 h2=>by grind) (fun a b=>by grind) l
 grind [List.Perm.eq_of_pairwise,qs5,List.mergeSort_perm,qna]
theorem qrp {a:Option Addr}{xs:List Int}(hs:∀ (blk off cap:Nat) (zs:List Int) (w:World),Go.Sort.Holds (Value.int .i64) w blk off zs.toArray→blk<w.heap.size→zs.length<4611686018427387904 →
   Calls P f #[.slice (some ⟨blk,off,none⟩) zs.length cap] w fun e w'=>e=.returned (.tuple #[])∧∃ n os,w'=Go.Sort.grow (Go.Sort.putRow (Value.int .i64) (Go.Sort.ahead w n) blk off (zs.mergeSort fun x y=>decide (x≤y)).toArray) os)(hn:∀ (p:Option Addr) (cap:Nat) (w:World),Calls P f #[.slice p 0 cap] w fun e w'=>e=.returned (.tuple #[])∧w'=w)(hx:xs.length<4611686018427387904) :
  PureM P f [.slice a xs.length c] [] [Ro (eI .i64) e 1 (.slice a xs.length c) xs] Φ Unit (fun _=>.tuple #[]) (fun _=>[]) (fun _=>[Ro (eI .i64) e 1 (.slice a (srt xs).length c) (srt xs)]):=by
 intro w hp
 simp only[qAh] at hs
 have hown:=hp.row _ (qBr.2 rfl)
 have hp0:Hp (muts [] [Ro (eI .i64) e 1 (.slice a xs.length c) xs]) w w [] [Ro (eI .i64) e 1 (.slice a xs.length c) xs] []:=hp.weaken (qBE _) (qBE _) (fun φ h=>by grind)
 rcases hown.2 with ⟨h5,h6⟩ | ⟨g,cap,cur,h5,_,hgg,hnc,hcm,hcs,htake⟩
 ·have h6':xs.length=0:=h6
  have hxs:xs=[]:=qCt.1 h6'
  subst hxs
  have hm:srt []=[]:=rfl
  rw[hm]
  exact (hn a c w).mono (fun e' w' ⟨h1,h2⟩=>⟨(),h1,by simp_all⟩)
 ·have h5':Value.slice a xs.length c=.slice (some ⟨g,0,none⟩) xs.length cap:=h5
  simp only[Value.slice.injEq,true_and] at h5'
  obtain ⟨rfl,rfl⟩:=h5'
  have hgg':w.heap[g]?=some (.cells cur e (0,0)):=hgg
  have htake':cur.toList.take xs.length=xs.map (Value.int .i64):=by
   have:cur.toList.take (xs.length*1)=xs.flatMap (eI .i64):=htake
   rwa [qB4,qiA] at this
  have hcs':cur.size=c:=by have:cur.size=c*1:=hcs;omega
  have hnc':xs.length≤c:=hnc
  have hlt:=(Array.getElem?_eq_some_iff.1 hgg').1
  refine (hs g 0 c xs w (row_holds hgg' htake') hlt hx).mono (fun e' w' ⟨h1,n,os,h2⟩=>⟨(),h1,?_⟩)
  subst h2
  refine hp0.swapRow (i:=0) rfl ?_ (.inl ⟨rfl,qgZ⟩)
  have hz:((Go.Sort.putRow (Value.int .i64) (Go.Sort.ahead w n) g 0 (srt xs).toArray).heap++os)[g]?=some (.cells (Go.Sort.putCells (Value.int .i64) 0 (srt xs).toArray cur) e (0,0)):=by
   grind [qj2,Go.Sort.ahead]
  refine ⟨qU (qD .i64) (srt xs),.inr ⟨g,c,_,rfl,qBC _,hz,?_,hcm,?_,?_⟩⟩
  ·show (srt xs).length≤c;rw[qhV];omega
  ·show _=c*1;rw[qgh,hcs',qB4]
  ·show (Go.Sort.putCells (Value.int .i64) 0 (srt xs).toArray cur).toList.take ((srt xs).length*1)=(srt xs).flatMap (eI .i64)
   rw[qB4,qiA]
   grind [qgi,qhV]
theorem qmn {a:Option Addr}{xs:List Int}(hs:∀ (blk off cap:Nat) (zs:List Int) (w:World),Go.Sort.Holds (Value.int .i64) w blk off zs.toArray→zs.length≤9223372036854775807→zs.length≤cap →
   Calls P f #[.slice (some ⟨blk,off,none⟩) zs.length cap] w fun e w'=>e=.returned (.slice (some ⟨blk,off,none⟩) (Go.Lib.compact zs).length cap)∧∃ q,w'=Go.Sort.putRow (Value.int .i64) (Go.Sort.ahead w q) blk off (Go.Lib.compact zs++qBd (zs.length-(Go.Lib.compact zs).length) 0).toArray)(hn:∀ (p:Option Addr) (cap:Nat) (w:World),Calls P f #[.slice p 0 cap] w fun e w'=>e=.returned (.slice p 0 cap)∧w'=w)(hle:(Go.Lib.compact xs).length≤xs.length) :
  PureM P f [.slice a xs.length c] [] [Ro (eI .i64) e 1 (.slice a xs.length c) xs] Φ (Option Addr×Nat) (fun g=>.slice g.1 (Go.Lib.compact xs).length g.2) (fun _=>[]) (fun g=>[Ro (eI .i64) e 1 (.slice g.1 (Go.Lib.compact xs).length g.2) (Go.Lib.compact xs)]):=by
 intro w hp
 have hown:=hp.row _ (qBr.2 rfl)
 have hp0:Hp (muts [] [Ro (eI .i64) e 1 (.slice a xs.length c) xs]) w w [] [Ro (eI .i64) e 1 (.slice a xs.length c) xs] []:=hp.weaken (qBE _) (qBE _) (fun φ h=>by grind)
 rcases hown.2 with ⟨h5,h6⟩ | ⟨g,cap,cur,h5,_,hgg,hnc,hcm,hcs,htake⟩
 ·have h6':xs.length=0:=h6
  have hxs:xs=[]:=qCt.1 h6'
  subst hxs
  have hc0:Go.Lib.compact ([]:List Int)=[]:=qCt.1 (by rfl)
  rw[hc0]
  exact (hn a c w).mono (fun e' w' ⟨h1,h2⟩=>⟨(a,c),h1,by simp_all⟩)
 ·have h5':Value.slice a xs.length c=.slice (some ⟨g,0,none⟩) xs.length cap:=h5
  simp only[Value.slice.injEq,true_and] at h5'
  obtain ⟨rfl,rfl⟩:=h5'
  have hgg':w.heap[g]?=some (.cells cur e (0,0)):=hgg
  have htake':cur.toList.take xs.length=xs.map (Value.int .i64):=by
   have:cur.toList.take (xs.length*1)=xs.flatMap (eI .i64):=htake
   rwa [qB4,qiA] at this
  have hcs':cur.size=c:=by have:cur.size=c*1:=hcs;omega
  have hnc':xs.length≤c:=hnc
  have hcm':c≤9223372036854775807:=hcm
  refine (hs g 0 c xs w (row_holds hgg' htake') (by omega) hnc').mono (fun e' w' ⟨h1,n,h2⟩=>⟨(some ⟨g,0,none⟩,c),h1,?_⟩)
  subst h2
  have hk:=qgZ (w:=w) (g:=g) (n:=n) (d:=(Go.Lib.compact xs++qBd (xs.length-(Go.Lib.compact xs).length) 0).toArray) (os:=#[])
  rw[Go.Sort.grow_empty] at hk
  refine hp0.swapRow (i:=0) rfl ?_ (.inl ⟨rfl,hk⟩)
  have hz:=qj2 (w:=Go.Sort.ahead w n) (d:=(Go.Lib.compact xs++qBd (xs.length-(Go.Lib.compact xs).length) 0).toArray) hgg'
  have hdl:(Go.Lib.compact xs++qBd (xs.length-(Go.Lib.compact xs).length) 0).length=xs.length:=by grind
  refine ⟨qU (qD .i64) (Go.Lib.compact xs),.inr ⟨g,c,_,rfl,qBC _,hz,?_,hcm,?_,?_⟩⟩
  ·show (Go.Lib.compact xs).length≤c;omega
  ·show _=c*1;rw[qgh,hcs',qB4]
  ·show (Go.Sort.putCells (Value.int .i64) 0 _ cur).toList.take ((Go.Lib.compact xs).length*1)=(Go.Lib.compact xs).flatMap (eI .i64)
   have h4:=qgi (cur:=cur) (zs:=Go.Lib.compact xs++qBd (xs.length-(Go.Lib.compact xs).length) 0) (by omega)
   have h6:=congrArg (List.take (Go.Lib.compact xs).length) h4
   rw[qDM,qC0 (by omega),qC1,qCC (by simp)] at h6
   rw[qB4,qiA]
   omega
theorem qnP {a:Option Addr}{xs:List Int}{x4 x5:Int}(hs:∀ (blk off cap i j:Nat) (d:Array Int) (w:World),Go.Sort.Holds (Value.int .i64) w blk off d→d.size≤cap→cap≤9223372036854775807→i≤j→j≤d.size →
   Calls P f #[.slice (some ⟨blk,off,none⟩) d.size cap,.int .i64 i,.int .i64 j] w fun e w'=>e=.returned (.slice (some ⟨blk,off,none⟩) (d.size-(j-i)) cap)∧∃ q,w'=Go.Sort.putRow (Value.int .i64) (Go.Sort.ahead w q) blk off (d.toList.take i++d.toList.drop j++qBd (j-i) 0).toArray)(hle:0≤x4∧x4≤x5∧x5≤(xs.length:Int)∧0<xs.length) :
  PureM P f [.slice a xs.length c,.int .i64 x4,.int .i64 x5] [] [Ro (eI .i64) e 1 (.slice a xs.length c) xs] Φ (Option Addr×Nat) (fun g=>.slice g.1 (xs.take x4.toNat++xs.drop x5.toNat).length g.2) (fun _=>[]) (fun g=>[Ro (eI .i64) e 1 (.slice g.1 (xs.take x4.toNat++xs.drop x5.toNat).length g.2) (xs.take x4.toNat++xs.drop x5.toNat)]):=by
 intro w hp
 obtain ⟨h0,h1,h2,h3⟩:=hle
 obtain ⟨i,rfl⟩:=qBf h0
 obtain ⟨j,rfl⟩:=qBf (qDz h0 h1)
 have hij:i≤j:=by omega
 have hj:j≤xs.length:=by omega
 simp only[qBh]
 have hown:=hp.row _ (qBr.2 rfl)
 have hp0:Hp (muts [] [Ro (eI .i64) e 1 (.slice a xs.length c) xs]) w w [] [Ro (eI .i64) e 1 (.slice a xs.length c) xs] []:=hp.weaken (qBE _) (qBE _) (fun φ h=>by grind)
 rcases hown.2 with ⟨h5,h6⟩ | ⟨g,cap,cur,h5,_,hgg,hnc,hcm,hcs,htake⟩
 ·have h6':xs.length=0:=h6
  omega
 ·have h5':Value.slice a xs.length c=.slice (some ⟨g,0,none⟩) xs.length cap:=h5
  simp only[Value.slice.injEq,true_and] at h5'
  obtain ⟨rfl,rfl⟩:=h5'
  have hgg':w.heap[g]?=some (.cells cur e (0,0)):=hgg
  have htake':cur.toList.take xs.length=xs.map (Value.int .i64):=by
   have:cur.toList.take (xs.length*1)=xs.flatMap (eI .i64):=htake
   rwa [qB4,qiA] at this
  have hcs':cur.size=c:=by have:cur.size=c*1:=hcs;omega
  have hnc':xs.length≤c:=hnc
  have hcm':c≤9223372036854775807:=hcm
  have hyl:(xs.take i++xs.drop j).length=xs.length-(j-i):=by grind
  refine (hs g 0 c i j xs.toArray w (row_holds hgg' htake') (by omega) hcm' hij (by omega)).mono (fun e' w' ⟨h1,n,h2⟩=>⟨(some ⟨g,0,none⟩,c),?_,?_⟩)
  ·grind
  subst h2
  have hk:=qgZ (w:=w) (g:=g) (n:=n) (d:=(xs.take i++xs.drop j++qBd (j-i) 0).toArray) (os:=#[])
  rw[Go.Sort.grow_empty] at hk
  refine hp0.swapRow (i:=0) rfl ?_ (.inl ⟨rfl,hk⟩)
  have hz:=qj2 (w:=Go.Sort.ahead w n) (d:=(xs.take i++xs.drop j++qBd (j-i) 0).toArray) hgg'
  have hdl:(xs.take i++xs.drop j++qBd (j-i) 0).length=xs.length:=by grind
  refine ⟨qU (qD .i64) (xs.take i++xs.drop j),.inr ⟨g,c,_,rfl,qBC _,hz,?_,hcm,?_,?_⟩⟩
  ·show (xs.take i++xs.drop j).length≤c;omega
  ·show _=c*1;rw[qgh,hcs',qB4]
  ·show (Go.Sort.putCells (Value.int .i64) 0 _ cur).toList.take ((xs.take i++xs.drop j).length*1)=(xs.take i++xs.drop j).flatMap (eI .i64)
   have h4:=qgi (cur:=cur) (zs:=xs.take i++xs.drop j++qBd (j-i) 0) (by omega)
   have h6:=congrArg (List.take (xs.take i++xs.drop j).length) h4
   rw[qDM,qC0 (by omega),qC1,qCC (by simp)] at h6
   rw[qB4,qiA]
   omega
theorem qbV {k:IntKind}{cs:Array Value}{o:Nat}{v:Value}(h:P.underlying t=some (.int k))(hv:cs[o]?=some v):(part t cs o).run P w=.ok v w:=by
 simp[part,isAgg,run_underlying h,hv]
theorem qpp {f0 f1 : Field}{k0 k1 : IntKind}{a b c d : Int}(hs : P.underlying t = some (.struct #[f0, f1]))(hst : P.stoodInHeld t = false)(n0 : f0.name ≠ "_")(n1 : f1.name ≠ "_")(o0 : f0.offset = 0)(o1 : f1.offset = 1)(h0:P.underlying f0.type=some (.int k0))(h1:P.underlying f1.type=some (.int k1)):(Op.equal t (.agg #[.int k0 a,.int k1 b]) (.agg #[.int k0 c,.int k1 d])).run P w=.ok ((a == c) && (b == d)) w:=by
 have hf:P.fieldsOf t=#[f0,f1]:=by simp[Program.fieldsOf,hs]
 unfold Op.equal Op.maxDepth
 rw[run_equalIn_agg w 9999 t _ _ (by rw[hf];exact hs) hst,hf]
 simp only[Op.eqFields,o0,o1]
 rw[if_pos n0]
 simp only[Sem.run_bind]
 rw[qbV h0 (v:=.int k0 a) rfl]
 simp only[Result.andThen_ok]
 rw[qbV h0 (v:=.int k0 c) rfl]
 simp only[Result.andThen_ok]
 rw[run_equalIn_int w 9998 _ k0 k0 a c h0]
 simp only[Result.andThen_ok]
 by_cases e:a=c
 ·subst e
  simp only[beq_self_eq_true,Bool.not_true,qBq,if_false]
  rw[if_pos n1]
  simp only[Sem.run_bind]
  rw[qbV h1 (v:=.int k1 b) rfl]
  simp only[Result.andThen_ok]
  rw[qbV h1 (v:=.int k1 d) rfl]
  simp only[Result.andThen_ok]
  rw[run_equalIn_int w 9998 _ k1 k1 b d h1]
  simp only[Result.andThen_ok]
  by_cases e2:b=d
  ·subst e2;simp
  ·simp[e2]
 ·simp[e]
class StE2 (P:Program) (t:TypeId) (k0 k1:outParam IntKind):Prop where
 out : ∃ f0 f1 : Field, P.underlying t = some (.struct #[f0, f1]) ∧ P.stoodInHeld t = false ∧ P.eqGuardType P.depth t = false ∧ f0.name ≠ "_" ∧ f1.name ≠ "_" ∧ f0.offset = 0 ∧ f1.offset = 1 ∧ P.underlying f0.type = some (.int k0) ∧ P.underlying f1.type = some (.int k1)
variable {xt yt:TypeId}
theorem ve.part {b o:Nat}{cs:List Value}(h:ve b o cs w):ve b (o+off) ((cs.drop off).take k) w:=by
 intro j u hj
 have hlt:j<k:=by have:=(qBv.1 hj).1;simp at this;omega
 rw[qCd hlt,qCz] at hj
 rw[Nat.add_assoc]
 exact h _ _ hj
def SlN {α γ:Type}(enc:α×γ→List Value)(inn:α×γ→List (World→Prop))(size:Nat)(v:Value)(xs:List α)(gs:List γ)(w:World):Prop :=
 gs.length=xs.length∧Sl enc size v (xs.zip gs) w∧∀ p∈xs.zip gs,∀ φ∈inn p,φ w
theorem qeZ {α γ:Type}{xs:List α}{gs:List γ}(h:gs.length=xs.length):(xs.zip gs).length=xs.length:=by
 simp_all
theorem qsq {α γ:Type}{xs:List α}{gs:List γ}(h:gs.length=xs.length)(i:Int)(k:α→Option ρ):(idx (xs.zip gs) i).bind (fun p=>k p.1)=(idx xs i).bind k:=by
 grind [idx]
theorem qjj {α γ:Type}{xs:List α}{gs:List γ}{i:Int}{p:α×γ}(h:idx (xs.zip gs) i=some p):idx xs i=some p.1:=by
 grind [idx]
theorem Hp.nestLen {α γ:Type}{enc:α×γ→List Value}{inn:α×γ→List (World→Prop)}{v:Value}{xs:List α}{gs:List γ}(h:Hp M0 w0 w B R F)(hF:F[j]?=some (SlN enc inn size v xs gs)):gs.length=xs.length :=
 (h.per _ (qBe hF)).here.1
theorem Hp.nestIn {α γ:Type}{enc:α×γ→List Value}{inn:α×γ→List (World→Prop)}{v:Value}{xs:List α}{gs:List γ}{p:α×γ}(h:Hp M0 w0 w B R F)(hF:F[j]?=some (SlN enc inn size v xs gs))(hp:p∈xs.zip gs):∀ φ∈inn p,Nec w (muts B R) φ :=
 fun φ hφ w' hk=>(h.per _ (qBe hF) w' hk).2.2 p hp φ hφ
theorem Hp.nestSl {α γ:Type}{enc:α×γ→List Value}{inn:α×γ→List (World→Prop)}{v:Value}{xs:List α}{gs:List γ}(h:Hp M0 w0 w B R F)(hF:F[j]?=some (SlN enc inn size v xs gs)):Nec w (muts B R) (Sl enc size v (xs.zip gs)) :=
 fun w' hk=>(h.per _ (qBe hF) w' hk).2.1
theorem Hp.dropSecond {φ ψ:World→Prop}{L:List (World→Prop)}(h:Hp M0 w0 w B R (φ::ψ::F))(hL:∀ χ∈L,Nec w (muts B R) χ):Hp M0 w0 w B R (φ::(L++F)) :=
 { h with per:=fun χ hχ=>(qBi.1 hχ).elim (fun e=>e▸h.per _ (by simp)) fun hχ=>(qBg.1 hχ).elim (fun hχ=>hL _ hχ) fun hχ=>h.per _ (by simp_all) }
theorem qiI {α γ:Type}{enc:α×γ→List Value}{inn:α×γ→List (World→Prop)}{xs:List α}{gs:List γ}{k:α→Option ρ}{i:Int}{v:Value}(henc:EncOk enc size)(hs0:size≠0)(hw:wants ops l ⟨some d,.indexAddr t' x ix,t,pos,af,gd⟩=some true)(ht:P.underlying t'=some (.slice e))(hT:TyF P e agg z size bytes)(hx:ev l x=some v)(hi:ev l ix=some (.int ki i))(hF:F[j]?=some (SlN enc inn size v xs gs))(hd:Nat.blt d n=true)(h:∀ y,idx xs i=some y→∀ q b o,SXO P ro n D M0 w0 Q ops rest ((d,.pointer (some ⟨b,o,none⟩))::l) B R (ve b o (enc (y,q))::(inn (y,q)++F)) (k y) r) :
  SXO P ro n D M0 w0 Q ops (⟨some d,.indexAddr t' x ix,t,pos,af,gd⟩::rest) l B R F ((idx xs i).bind k) r:=by
 intro hm a w hf hp
 have hl:=hp.nestLen hF
 have hs:=hp.nestSl hF
 rw[← qsq hl] at hm
 refine vT (F:=Sl enc size v (xs.zip gs)::F) (j:=0) henc hs0 hw ht hT hx hi rfl hd (fun p hq b o=>?_) hm a w hf (hp.addFact hs)
 intro hm' a' w' hf' hp'
 have hmem:p∈xs.zip gs:=by
  obtain ⟨_,_,h3⟩:=qu hq
  grind
 have hF':(ve b o (enc p)::Sl enc size v (xs.zip gs)::F)[j+2]?=some (SlN enc inn size v xs gs):=by grind
 exact h p.1 (qjj hq) p.2 b o hm' a' w' hf' (hp'.dropSecond (hp'.nestIn hF' hmem))
theorem qtl {α γ:Type}{xs:List α}{gs:List γ}(L H:Nat):((xs.zip gs).take H).drop L=((xs.take H).drop L).zip ((gs.take H).drop L):=by
 apply qBO
 grind
theorem qt6 {x:Code}{α γ:Type}{enc:α×γ→List Value}{inn:α×γ→List (World→Prop)}{xs:List α}{gs:List γ}{k:List α→Option ρ}{li hj:Int}(j:Nat)(henc:EncOk enc size)(hF:F[j]?=some (SlN enc inn size (.slice ao xs.length c) xs gs))(h:∀ ys,sub xs li hj=some ys→∀ a' c' gs',cutv ao c size li hj=.slice a' ys.length c'→xs.length≤c→SXC P ro n D M0 w0 Q x l B R (SlN enc inn size (.slice a' ys.length c') ys gs'::F) (k ys) r) :
  SXC P ro n D M0 w0 Q x l B R F ((sub xs li hj).bind k) r:=by
 intro hm a w hf hp
 have hl:=hp.nestLen hF
 have hs:=hp.nestSl hF
 cases hq:sub xs li hj with
 | none=>simp_all
 | some ys =>
  rw[hq] at hm
  obtain ⟨b1,b2,b3,b4⟩:=qdo hq
  have hz:sub (xs.zip gs) li hj=some (ys.zip ((gs.take hj.toNat).drop li.toNat)):=by
   grind [sub,qtl]
  have hlen:((gs.take hj.toNat).drop li.toNat).length=ys.length:=by simp_all
  refine qp9 (c:=c) (ao:=ao) (xs:=xs.zip gs) (F:=Sl enc size (.slice ao xs.length c) (xs.zip gs)::F) (k:=fun _=>k ys) (r:=r) 0 henc (by simp_all) (fun zs hzs a' c' hv hc=>?_) (by rw[hz];grind) a w hf (hp.addFact hs)
  have:zs=ys.zip ((gs.take hj.toNat).drop li.toNat):=by simp_all
  subst this
  intro hm' a2 w' hf' hp'
  rw[qeZ hlen] at hv hp'
  rw[qeZ hl] at hc
  refine h ys hq a' c' ((gs.take hj.toNat).drop li.toNat) hv hc hm' a2 w' hf' ((hp'.weaken (F':=F) (qBE _) (qBE _) (fun φ h=>qBt _ (qBt _ h))).addFact fun w2 hk=>?_)
  refine ⟨hlen,hp'.per _ (qBp ..) w2 hk,fun p hpm φ hφ=>?_⟩
  have hF':(Sl enc size (.slice a' ys.length c') (ys.zip ((gs.take hj.toNat).drop li.toNat))::Sl enc size (.slice ao xs.length c) (xs.zip gs)::F)[j+2]?=some (SlN enc inn size (.slice ao xs.length c) xs gs):=by grind
  refine hp'.nestIn hF' ?_ φ hφ w2 hk
  rw[b4,← qtl] at hpm
  grind
theorem qnc {α γ:Type}{enc:α×γ→List Value}{inn:α×γ→List (World→Prop)}{v:Value}(xs:List α)(gs:List γ)(i:Nat)(hl:gs.length=xs.length)(hR:R[i]?=some (Ro enc e size v (xs.zip gs)))(hin:∀ φ∈(xs.zip gs).flatMap inn,φ∈F)(h:SXO P ro n D M0 w0 Q ops rest l B (R.eraseIdx i) (SlN enc inn size v xs gs::F) m r):SXO P ro n D M0 w0 Q ops rest l B R F m r:=by
 intro hm a w hf hp
 have hp2:=hp.freeze hR
 have hp1:Hp M0 w0 w B (R.eraseIdx i) F:=hp2.weaken (qBE _) (qBE _) (fun φ h=>qBt _ h)
 refine h hm a w hf (hp1.addFact fun w' hk=>⟨hl,hp2.per _ (qBp ..) w' hk,fun p hp φ hφ=>hp1.per φ (hin φ (qB1.2 ⟨p,hp,hφ⟩)) w' hk⟩)
theorem qyw {s e':TypeId}(hw:wants ops l ⟨some d,.call ⟨.builtin .cap,#[x],#[s]⟩,t,pos,af,gd⟩=some true)(ht:P.underlying s=some (.slice e'))(hx:ev l x=some (.slice ao k c))(hd:Nat.blt d n=true)(h:SXO P ro n D M0 w0 Q ops rest ((d,.int .i64 (c:Int))::l) B R F m r):SXO P ro n D M0 w0 Q ops (⟨some d,.call ⟨.builtin .cap,#[x],#[s]⟩,t,pos,af,gd⟩::rest) l B R F m r :=
 qO (.int .i64 (c:Int)) hw rfl hd (fun a w hf _=>by
  have h1:=hf.ev hx
  generalize a.eval=e at h1 ⊢
  simp[h1,Builtin.cap_,run_underlying ht,goInt,execOp,resolve,invoke,builtin]) h
theorem qqe {α:Type}{enc:α→List Value}{xs:List α}{k:List α→Option ρ}{hi:Option Operand}{hj:Int}{i:Nat}(henc:EncOk enc size)(hw:wants ops l ⟨some d,.slice t' x none hi none,t,pos,af,gd⟩=some true)(ht:P.underlying t'=some (.slice e))(hT:TyF P e agg z size bytes)(hx:ev l x=some (.slice ao xs.length c))(hhi:evOpt l hi (xs.length:Int)=some hj)(hR:R[i]?=some (Ro enc e size (.slice ao xs.length c) xs))(hd:Nat.blt d n=true)(h:∀ ys,sub xs 0 hj=some ys→SXO P ro n D M0 w0 Q ops rest ((d,.slice ao ys.length c)::l) B (Ro enc e size (.slice ao ys.length c) ys::R.eraseIdx i) F (k ys) r) :
  SXO P ro n D M0 w0 Q ops (⟨some d,.slice t' x none hi none,t,pos,af,gd⟩::rest) l B R F ((sub xs 0 hj).bind k) r:=by
 refine k7 hw fun hm a w hf hp=>?_
 cases hq:sub xs 0 hj with
 | none=>simp_all
 | some ys =>
  rw[hq] at hm
  have hm':k ys=some r:=by grind
  obtain ⟨_,b2,b3,hys⟩:=qdo hq
  obtain ⟨H,rfl⟩:=qBf b2
  have b3':H≤xs.length:=by omega
  have hys':ys=xs.take H:=by simp_all
  have hyl:ys.length=H:=by simp_all
  have hown:=hp.row _ (qBe hR)
  have hcap:xs.length≤c:=by
   rcases hown.2 with ⟨h5,h6⟩ | ⟨g,cap,cur,h5,_,hgg,hnc,_⟩
   ·have h6':xs.length=0:=h6
    omega
   ·have h5':Value.slice ao xs.length c=.slice (some ⟨g,0,none⟩) xs.length cap:=h5
    simp only[Value.slice.injEq,true_and] at h5'
    have:xs.length≤cap:=hnc
    omega
  refine ⟨.slice ao H c,w,?_,?_⟩
  ·have h1:=hf.ev hx
   have e2:=qdF hf hhi
   have hb0:(0:Int)≤(H:Int):=by omega
   have hb1:(H:Int)≤(c:Int):=by omega
   have hn1:H≤c:=by omega
   have hb9:(if c=0 then ao else ao.map (·.add (0*size)))=ao:=by
    split
    ·rfl
    ·rcases hown.2 with ⟨h5,h6⟩ | ⟨g,cap,cur,h5,_,hgg,hnc,_⟩
     ·have h5':Value.slice ao xs.length c=.slice none 0 0:=h5
      simp_all
     ·have h5':Value.slice ao xs.length c=.slice (some ⟨g,0,none⟩) xs.length cap:=h5
      simp only[Value.slice.injEq,true_and] at h5'
      grind [Addr.add_lit]
   generalize hε:a.eval=ε at h1 e2 ⊢
   rcases e2 with ⟨k2,e2⟩ | ⟨rfl,e2⟩
   ·simp[execOp,h1,e2,Instr.sliceAt,Instr.slice,Instr.sliceBounds,Instr.sliceBound,asIntOf,run_underlying ht,hT.run_size,hb0,hn1]
    simp_all
   ·have:H=xs.length:=by omega
    subst this
    simp[execOp,h1,Instr.sliceAt,Instr.slice,Instr.sliceBounds,run_underlying ht,hT.run_size]
    simp_all
  ·have hz:=h ys hq
   rw[hyl] at hz
   refine hz hm' _ _ (hf.put hd _) (hp.swapRow hR ?_ (.inl ⟨by cases ao <;> rfl,Keeps.refl _ _⟩))
   have hfl:=qU henc ys
   refine ⟨by show (ys.flatMap enc).length=ys.length*size;omega,?_⟩
   rcases hown.2 with ⟨h5,h6⟩ | ⟨g,cap,cur,h5,hb,hgg,hnc,hcm,hcs,htake⟩
   ·have h5':Value.slice ao xs.length c=.slice none 0 0:=h5
    simp_all
   ·have h5':Value.slice ao xs.length c=.slice (some ⟨g,0,none⟩) xs.length cap:=h5
    simp only[Value.slice.injEq,true_and] at h5'
    obtain ⟨rfl,rfl⟩:=h5'
    right
    refine ⟨g,c,cur,?_,hb,hgg,?_,hcm,hcs,?_⟩
    ·show Value.slice (some ⟨g,0,none⟩) H c=.slice (some ⟨g,0,none⟩) ys.length c
     grind
    ·show ys.length≤c
     omega
    ·show cur.toList.take (ys.length*size)=ys.flatMap enc
     have ht':cur.toList.take (xs.length*size)=xs.flatMap enc:=htake
     rw[hyl,hys',qdh henc,← ht',qDM]
     simp_all
theorem qmv (hz:z.cells=#[z])(m:Nat):(Builtin.zeroCells z.cells m).toList=qBd m z:=by
 rw[hz]
 unfold Builtin.zeroCells
 apply qB8
 ·simp
 ·intro i h1 h2
  have hm1:i%1=0:=Nat.mod_one i
  simp[hm1]
theorem qp1 (w:World){ti ty:TypeId}{kk:IntKind}(ht:P.underlying t=some (.slice e))(hti:P.underlying ti=some (.int ki))(hT:TyF P e false z 1 bytes)(hz1:z.cells=#[z])(hzo:z.oneCell'=true){v:Value}{xs:List Value}(hown:w.ownsRow 0 e 1 v n xs)(m:Nat)(h63:n+m≤maxLen)(hbytes:(n+m)*bytes≤140737488355328) :
  ∃ v' w',(Builtin.append_ #[t,ti] ty #[v,.int kk (m:Int)]).run P w=.ok v' w'∧w'.ownsRow 0 e 1 v' (n+m) (xs++qBd m z) ∧
   ((v'.ownBlock=v.ownBlock∧Keeps v.ownBlock.toList w w')∨(Keeps [] w w'∧∀ g,v'.ownBlock=some g→w.heap.size≤g)):=by
 obtain ⟨i,hi,hz,hsz,hby⟩:=hT.inf
 subst hby
 have hsmall:n+m≤9223372036854775807:=by simp only[maxLen] at h63;omega
 have hwrap:IntKind.i64.wrap (m:Int)=(m:Int):=by
  unfold IntKind.wrap
  simp only[IntKind.bits,IntKind.signed,show (2^64:Int)=18446744073709551616 from by decide,show (2^(64-1):Int)=9223372036854775808 from by decide]
  have e1:(m:Int)%18446744073709551616=m:=by omega
  rw[e1,if_neg (by simp;omega)]
 have hm0:¬ ((m:Int)<0):=by omega
 have hmb:m*i.bytes≤140737488355328:=qCc (qBG _ (by omega)) hbytes
 have hm48:¬ ((281474976710656:Int)<(m:Int)*(i.bytes:Int)):=by
  have:((m*i.bytes:Nat):Int)≤140737488355328:=by omega
  rw[Int.natCast_mul] at this
  omega
 have hmx0:¬ (9223372036854775807:Int)<(n:Int)+(m:Int):=by omega
 have hzc:(Builtin.zeroCells z.cells m).toList=qBd m z:=qmv hz1 m
 have hzc':Builtin.zeroCells #[z] m=(qBd m z).toArray:=by
  rw[← hzc,Array.toArray_toList,hz1]
 have happ:∀ w':World,(if m*1=0 then (pure #[]:Sem (Array Value)) else do pure (Builtin.zeroCells (← zeroValue e).cells m)).run P w'=.ok (qBd m z).toArray w':=by
  intro w'
  by_cases h0:m=0
  ·subst h0;simp
  ·have:¬ m*1=0:=by omega
   rw[if_neg this]
   simp[zeroValue,typeInfo,hi,hz,hz1,hzc']
 have hlen:(xs++qBd m z).length=(n+m)*1:=by rw[qBk,hown.1,qBT];omega
 have hfo:∀ w',w'.heap=w.heap→(Builtin.firstCells 1 n v).run P w'=.ok xs.toArray w':=fun w' hh=>jK ((zn hown).heap hh)
 have grown:∀ (old:Nat),old<n+m →
   (w.drew.alloc (.cells (xs.toArray++(qBd m z).toArray++Builtin.zeroCells z.cells (grownCap w (n+m) old e-(n+m))) e)).ownsRow 0 e 1
    (.slice (some ⟨w.heap.size,0,none⟩) (n+m) (grownCap w (n+m) old e)) (n+m) (xs++qBd m z) ∧
   Keeps [] w (w.drew.alloc (.cells (xs.toArray++(qBd m z).toArray++Builtin.zeroCells z.cells (grownCap w (n+m) old e-(n+m))) e)):=by
  intro old ho
  have hge:=grownCap_ge w (n+m) old e
  have hcm:grownCap w (n+m) old e≤maxLen:=grownCap_le_maxLen w (n+m) old e h63
  have hx:=hown.1
  refine ⟨⟨hlen,.inr ⟨w.heap.size,_,_,rfl,qBC _,heap_alloc_new w.drew _,hge,hcm,?_,?_⟩⟩,⟨rfl,rfl,rfl,by simp,fun k hk _=>Go.RowKit.Below.heap_alloc w.drew _ k hk,fun _=>Nat.le_succ _⟩⟩
  ·simp only[Array.size_append,qB6,size_zeroCells,hz1,hx,qBT,qB6]
   simp
   omega
  ·simp only[Array.toList_append,qBn]
   rw[← qBn,← hlen]
   exact qCl
 rcases hown.2 with ⟨rfl,rfl⟩ | ⟨g,cap,cur,rfl,hbg,hg,hnc,hcm,hcs,htake⟩
 ·have hx:xs=[]:=List.eq_nil_of_length_eq_zero (by simpa using hown.1)
  subst hx
  by_cases hm:m=0
  ·subst hm
   refine ⟨.slice none 0 0,w,?_,World.ownsRow_nil w 0 e 1,.inr ⟨Keeps.refl _ _,by simp[Value.ownBlock]⟩⟩
   simp[Builtin.append_,run_underlying ht,run_underlying hti,Go.sizeOf,typeInfo,hi,asInt,asIntOf,show IntKind.i64.wrap 0=0 from by decide]
  ·have hgr:=grown 0 (by omega)
   have h48:=qaK (need:=0+m) (cap:=0) (by omega) hbytes
   simp only[qB0,List.nil_append,Array.empty_append] at hgr h48 hbytes ⊢
   refine ⟨_,_,?_,hgr.1,.inr ⟨hgr.2,by simp[Value.ownBlock]⟩⟩
   have hf0:(Builtin.firstCells 1 0 (.slice none 0 0)).run P w.drew=.ok #[] w.drew:=hfo w.drew rfl
   have hm':¬ m≤0:=by omega
   have hmx:¬ (9223372036854775807:Int)<(m:Int):=by omega
   have h48':¬ Builtin.nextslicecap m 0*i.bytes > 2^48:=by simpa using h48
   simp[Builtin.append_,run_underlying ht,run_underlying hti,Go.sizeOf,typeInfo,zeroValue,hi,hz,hsz,asInt,asIntOf,hwrap,hm0,hm48,hm,hmx,h48',Question.forced,hf0,newRow,grownCap,hz1,hzc']
 ·by_cases hroom:n+m≤cap
  ·have hnl:(qBd m z).length=m:=qBT
   have hfit:n*1+(qBd m z).length≤cur.size:=by rw[hnl,hcs];omega
   have hst:=run_storeCells_at P g (n*1) e (qBd m z) 0 cur w hg (by simpa using hfit) (fun v hv=>by rw[(List.mem_replicate.1 hv).2];exact hzo)
   simp only[Nat.add_zero] at hst
   refine ⟨.slice (some ⟨g,0,none⟩) (n+m) cap,w.setRow g (cur.toList.take (n*1)++qBd m z++cur.toList.drop (n*1+(qBd m z).length)).toArray,?_,⟨hlen,.inr ⟨g,cap,_,rfl,hbg,setRow_heap w g cur _ e _ hg,hroom,hcm,?_,?_⟩⟩,.inl ⟨rfl,⟨rfl,rfl,rfl,by simp,fun k _ hk=>setRow_other w g k _ (fun e=>hk (by simp[Value.ownBlock,e])),fun _=>qBo _⟩⟩⟩
   ·have hap:=happ w
    by_cases hm:m=0
    ·subst hm
     simp only[List.replicate_zero] at hst hap ⊢
     simp[Builtin.append_,run_underlying ht,run_underlying hti,Go.sizeOf,typeInfo,zeroValue,hi,hz,hsz,asInt,asIntOf,show IntKind.i64.wrap 0=0 from by decide,hnc,Addr.add_lit]
     simp only[List.length_nil,Nat.add_zero,qBR,List.take_append_drop,qB4,Array.toArray_toList] at hst ⊢
     rw[hst];rfl
    ·simp[Builtin.append_,run_underlying ht,run_underlying hti,Go.sizeOf,typeInfo,zeroValue,hi,hz,hsz,asInt,asIntOf,hwrap,hm0,hm48,hm,hroom,Addr.add_lit,hz1,hzc']
     simp at hst
     rw[hst];rfl
   ·simp only[qB6,qBk,List.length_take,List.length_drop,Array.length_toList]
    omega
   ·rw[htake,← hlen]
    exact qCl
  ·have hgr:=grown cap (by omega)
   refine ⟨_,_,?_,hgr.1,.inr ⟨hgr.2,by simp[Value.ownBlock]⟩⟩
   have hf0:=hfo w.drew rfl
   have hm:¬ m=0:=by omega
   have h48':¬ Builtin.nextslicecap (n+m) cap*i.bytes > 2^48:=by simpa using qaK (by omega) hbytes
   simp[Builtin.append_,run_underlying ht,run_underlying hti,Go.sizeOf,typeInfo,zeroValue,hi,hz,hsz,asInt,asIntOf,hwrap,hm0,hm48,hm,hroom,hmx0,h48',Question.forced,hf0,newRow,grownCap,hz1,hzc']
def appz {α:Type}(lim:Nat)(xs:List α)(y:α)(n:Int):Option (List α):=if 0≤n∧xs.length+n.toNat≤lim then some (xs++qBd n.toNat y) else none
theorem qps {α:Type}{enc:α→List Value}{y:α}(h:enc y=[z])(k:Nat):(qBd k y).flatMap enc=qBd k z:=by
 induction k with
 | zero=>rfl
 | succ k ih=>grind
theorem qwO {α:Type}{enc:α→List Value}{xs:List α}{y:α}{k:List α→Option ρ}{s:Operand}{v:Value}{kk:IntKind}{c:Int}{ti:Nat}(i:Nat)(_henc:EncOk enc 1)(hw:wants ops l ⟨some d,.call ⟨.builtin .append,#[s,x],#[t',ti]⟩,t,pos,af,gd⟩=some true)(ht:P.underlying t'=some (.slice e))(hti:P.underlying ti=some (.int ki))(hT:TyF P e false z 1 bytes)(hz:z.cells=#[z])(hzo:z.oneCell'=true)(hy:enc y=[z])(hd:Nat.blt d n=true)(hs:ev l s=some v)(hx:ev l x=some (.int kk c))(hR:R[i]?=some (Ro enc e 1 v xs))(hlim:Nat.ble lim 9223372036854775807=true)(hlb:Nat.ble (lim*bytes) 140737488355328=true)(h:∀ zs,appz lim xs y c=some zs→∀ a c',SXO P ro n D M0 w0 Q ops rest ((d,.slice a zs.length c')::l) B (Ro enc e 1 (.slice a zs.length c') zs::R.eraseIdx i) F (k zs) r) :
  SXO P ro n D M0 w0 Q ops (⟨some d,.call ⟨.builtin .append,#[s,x],#[t',ti]⟩,t,pos,af,gd⟩::rest) l B R F ((appz lim xs y c).bind k) r:=by
 refine k7 hw fun hm a w hf hp=>?_
 cases hq:appz lim xs y c with
 | none=>simp_all
 | some zs =>
  rw[hq] at hm
  have hm':k zs=some r:=by grind
  have hq':=hq
  unfold appz at hq
  split at hq
  ·rename_i hle
   obtain ⟨hc0,hle⟩:=hle
   obtain ⟨m',rfl⟩:=qBf hc0
   simp only[qBl,qBh] at hq hle
   have h1:=hf.ev hs
   have h2:=hf.ev hx
   have hlim':=qBS hlim
   have hlb':=qBS hlb
   obtain ⟨v',w',hr,ho,hk⟩:=qp1 (P:=P) (ty:=t) (kk:=kk) w ht hti hT hz hzo (hp.row _ (qBe hR)) m'
    (by show xs.length+m'≤maxLen;grind [maxLen]) (by show (xs.length+m')*bytes≤_;exact qCc (qBG _ hle) hlb')
   have hown:(Ro enc e 1 v' zs).own w':=by
    have ho':w'.ownsRow 0 e 1 v' (xs.length+m') (xs.flatMap enc++qBd m' z):=ho
    show w'.ownsRow 0 e 1 v' zs.length (zs.flatMap enc)
    grind [qps]
   have hsw:=hp.swapRow hR hown hk
   obtain ⟨ao,c',hv⟩:=hsw.rowForm (show (Ro enc e 1 v' zs::R.eraseIdx i)[0]?=some (Ro enc e 1 v' zs) from rfl)
   subst hv
   refine ⟨_,w',?_,h _ hq' ao c' hm' _ _ (hf.put hd _) hsw⟩
   generalize a.eval=ε at h1 h2 ⊢
   simp only[Ro] at hr
   simp[execOp,resolve,invoke,builtin,h1,h2,hr]
  simp_all
theorem qrB {α:Type}{enc:α→List Value}{xs:List α}{g i:Nat}{v:Value}{y:α}(henc:EncOk enc esz)(hw:wants ops l ⟨some d,.load t' x,t,pos,af,gd⟩=some true)(hx:ev l x=some (.pointer (some ⟨g,i*esz+off,none⟩)))(hT:TyF P t' agg z size bytes)(hR:R[j]?=some (Ro enc e esz v xs))(hg:v.ownBlock=some g)(hy:xs[i]?=some y)(hl:(((enc y).drop off).take size).length=size)(hs:agg=false→size=1)(hV:(if agg then .agg (((enc y).drop off).take size).toArray else (((enc y).drop off).take size).getD 0 undef)=V)(hd:Nat.blt d n=true)(h:SXO P ro n D M0 w0 Q ops rest ((d,V)::l) B R F m r):SXO P ro n D M0 w0 Q ops (⟨some d,.load t' x,t,pos,af,gd⟩::rest) l B R F m r :=
 qO V hw rfl hd (fun a w hf hp=>by
  have h1:=hf.ev hx
  have hc:ve g (i*esz) (enc y) w:=qlD henc (hp.row _ (qBe hR)) hg hy
  have hr:=qar hT hc.part hl hV.symm hs
  generalize a.eval=ε at h1 ⊢
  simp[execOp,h1,Instr.loadAt,Instr.sureAddr,hr]) h
def outs {β:Type}(hs:List Nat):Nat→List β→List β
 | _,[]=>[]
 | k,x::t=>if k∈hs then outs hs (k+1) t else x::outs hs (k+1) t
theorem qcd {β:Type}:∀ (k:Nat) (l:List β),outs [] k l=l
 | _,[]=>rfl
 | k,x::t=>by
  show (if k∈[] then outs [] (k+1) t else x::outs [] (k+1) t)=_
  rw[if_neg (by simp),qcd (k+1) t]
theorem qmX {β:Type}{hs:List Nat}{j:Nat}:∀ (k:Nat) (l:List β),j<k→outs (j::hs) k l=outs hs k l
 | _,[],_=>rfl
 | k,x::t,h=>by
  show (if k∈j::hs then outs (j::hs) (k+1) t else x::outs (j::hs) (k+1) t)=if k∈hs then outs hs (k+1) t else x::outs hs (k+1) t
  rw[qmX (k+1) t (by omega)]
  grind
theorem qjX {β:Type}{hs:List Nat}{p:β}:∀ (k j:Nat) (l:List β),l[j]?=some p→k+j∉hs→(outs hs k l).Perm (p::outs ((k+j)::hs) k l)
 | _,_,[],h,_=>by grind
 | k,0,x::t,h,hn=>by
  simp only[List.getElem?_cons_zero,qBl] at h
  subst h
  show (if k∈hs then outs hs (k+1) t else x::outs hs (k+1) t).Perm (x::if k∈(k+0)::hs then outs ((k+0)::hs) (k+1) t else x::outs ((k+0)::hs) (k+1) t)
  rw[if_neg (by omega),if_pos (by simp),qmX (k+1) t (by omega)]
 | k,j+1,x::t,h,hn=>by
  have h':t[j]?=some p:=by grind
  have hn':k+1+j∉hs:=by grind
  have ih:=qjX (hs:=hs) (k+1) j t h' hn'
  rw[show k+1+j=k+(j+1) from by omega] at ih
  show (if k∈hs then outs hs (k+1) t else x::outs hs (k+1) t).Perm (p::if k∈(k+(j+1))::hs then outs ((k+(j+1))::hs) (k+1) t else x::outs ((k+(j+1))::hs) (k+1) t)
  by_cases hk:k∈hs
  ·simp_all
  ·rw[if_neg hk,if_neg (by simp_all)]
   exact (ih.cons x).trans (qDK ..)
theorem qlv {β:Type}{hs:List Nat}{p:β}:∀ (k j:Nat) (l:List β),k+j∈hs→outs hs k (l.set j p)=outs hs k l
 | _,_,[],_=>by simp
 | k,0,x::t,h=>by
  grind [outs]
 | k,j+1,x::t,h=>by
  show (if k∈hs then outs hs (k+1) (t.set j p) else x::outs hs (k+1) (t.set j p))=if k∈hs then outs hs (k+1) t else x::outs hs (k+1) t
  rw[qlv (k+1) j t (by grind)]
theorem qlu {β:Type}{hs hs':List Nat}(h:∀ x,x∈hs↔x∈hs'):∀ (k:Nat) (l:List β),outs hs k l=outs hs' k l
 | _,[]=>rfl
 | k,x::t=>by
  show (if k∈hs then outs hs (k+1) t else x::outs hs (k+1) t)=if k∈hs' then outs hs' (k+1) t else x::outs hs' (k+1) t
  rw[qlu h (k+1) t]
  simp_all
theorem qqT {hs:List Nat}(hk:hs[k]?=some j)(hn:hs.Nodup):j∉hs.eraseIdx k∧(hs.eraseIdx k).Nodup∧∀ x,x∈j::hs.eraseIdx k↔x∈hs:=by
 obtain ⟨A,C,rfl,he⟩:=qel hk
 grind
def RowF.row (f:RowF):RowD:=⟨f.v,f.e,f.size,f.n,f.cs⟩
def RowF.cells (f:RowF):World→Prop:=Cells f.v f.n f.size f.cs
def FoR {α:Type}(enc:α→List Value)(e:TypeId)(size:Nat)(v:Value)(xs:List α):RowF:=⟨v,e,size,xs.length,xs.flatMap enc⟩
def guardF (b:Bool):RowF:=⟨.slice none 0 0,0,1,0,if b then [] else [.bool true]⟩
theorem qcH {b:Bool}:(guardF b).own w↔b=true:=by
 grind [guardF,RowF.own,World.ownsRow]
def RoN {α γ:Type}(enc:α×γ→List Value)(rin:α×γ→List RowF)(e:TypeId)(size:Nat)(v:Value)(xs:List α)(gs:List γ)(hs:List Nat):RowD :=
 @RowD.mk v e size xs.length ((xs.zip gs).flatMap enc) ⟨guardF (decide (gs.length=xs.length∧hs.Nodup))::(outs hs 0 (xs.zip gs)).flatMap rin⟩
def InR {β:Type}(rin:β→List RowF)(ps:List β)(hs:List Nat):RowD:=@RowD.mk (.slice none 0 0) 0 1 0 [] ⟨(outs hs 0 ps).flatMap rin⟩
theorem Hp.rowsP (h:Hp M0 w0 w B R F)(hr:∀ r∈R',r.owns w)(hp:(R.flatMap RowD.blocks).Perm (R'.flatMap RowD.blocks)):Hp M0 w0 w B R' F :=
 h.permM h.blk hr (hp.append_left _)
theorem qei {i:Nat}{r:RowD}(hi:R[i]?=some r):R.Perm (r::R.eraseIdx i):=by
 obtain ⟨A,C,rfl,he⟩:=qel hi
 simp_all
theorem Hp.front {i:Nat}{r:RowD}(h:Hp M0 w0 w B R F)(hi:R[i]?=some r):Hp M0 w0 w B (r::R.eraseIdx i) F:=h.perm (qBF _) (qei hi)
theorem qhI (L:List RowF):(L.map RowF.row).flatMap RowD.blocks=L.filterMap (·.v.ownBlock):=by
 induction L with
 | nil=>rfl
 | cons f L ih =>
  rw[qBU,qBz,ih,RowD.blocks_one (r:=f.row) rfl,List.filterMap_cons]
  show f.v.ownBlock.toList++_=_
  grind
variable {α γ:Type}{enc:α×γ→List Value}{rin:α×γ→List RowF}{i:Nat}{v:Value}{xs:List α}{gs:List γ}{hs:List Nat}
theorem Hp.nestOk (h:Hp M0 w0 w B R F)(hR:R[i]?=some (RoN enc rin e size v xs gs hs)):gs.length=xs.length∧hs.Nodup:=by
 have:=(h.rows _ (qBe hR)).2 (guardF (decide (gs.length=xs.length∧hs.Nodup))) (qBp ..)
 simpa using qcH.1 this
theorem qaq:(RoN enc rin e size v xs gs hs).blocks=v.ownBlock.toList++((outs hs 0 (xs.zip gs)).flatMap rin).filterMap (·.v.ownBlock):=rfl
theorem qhS {enc:β→List Value}{ps:List β}:(Ro enc e size v ps).blocks=v.ownBlock.toList:=RowD.blocks_one rfl
theorem qiC {rin:β→List RowF}{ps:List β}:(InR rin ps hs).blocks=((outs hs 0 ps).flatMap rin).filterMap (·.v.ownBlock):=rfl
theorem qxm (ps:List (α×γ)):(ps.map (·.1)).zip (ps.map (·.2))=ps:=by
 induction ps with
 | nil=>rfl
 | cons p ps ih=>simp_all
theorem Hp.unN (h:Hp M0 w0 w B R F)(hR:R[i]?=some (RoN enc rin e size v xs gs hs)) :
  Hp M0 w0 w B (Ro enc e size v (xs.zip gs)::InR rin (xs.zip gs) hs::R.eraseIdx i) F:=by
 obtain ⟨hl,hn⟩:=h.nestOk hR
 have h1:=h.front hR
 have h2:=h1.rows _ (qBp ..)
 refine h1.rowsP (fun r hr=>?_) ?_
 ·rcases qBi.1 hr with rfl | hr
  ·refine RowD.owns_one ?_ rfl
   have h3:w.ownsRow 0 e size v xs.length ((xs.zip gs).flatMap enc):=h2.1
   show w.ownsRow 0 e size v (xs.zip gs).length ((xs.zip gs).flatMap enc)
   simp_all
  ·rcases qBi.1 hr with rfl | hr
   ·exact ⟨⟨rfl,.inl ⟨rfl,rfl⟩⟩,fun f hf=>h2.2 f (qBt _ hf)⟩
   ·exact h1.rows r (qBt _ hr)
 grind [qhS,qiC,qaq]
theorem Hp.reN {ps:List (α×γ)}(h:Hp M0 w0 w B (Ro enc e size v ps::InR rin ps hs::R) F)(hn:hs.Nodup):Hp M0 w0 w B (RoN enc rin e size v (ps.map (·.1)) (ps.map (·.2)) hs::R) F:=by
 have hz:=qxm ps
 have h1:=h.rows _ (qBp ..)
 have h2:=h.rows (InR rin ps hs) (by simp)
 refine h.rowsP (fun r hr=>?_) ?_
 ·rcases qBi.1 hr with rfl | hr
  ·refine ⟨?_,fun f hf=>?_⟩
   ·have h3:w.ownsRow 0 e size v ps.length (ps.flatMap enc):=h1.1
    show w.ownsRow 0 e size v (ps.map (·.1)).length (((ps.map (·.1)).zip (ps.map (·.2))).flatMap enc)
    simp_all
   ·rcases qBi.1 hf with rfl | hf
    ·grind [qcH]
    ·rw[hz] at hf
     exact h2.2 f hf
  ·exact h.rows r (by grind)
 grind [qaq,qhS,qiC]
theorem Hp.openN {p:α×γ}(h:Hp M0 w0 w B R F)(hR:R[i]?=some (RoN enc rin e size v xs gs hs))(hj:(xs.zip gs)[j]?=some p)(hn:j∉hs) :
  Hp M0 w0 w B ((rin p).map RowF.row++RoN enc rin e size v xs gs (j::hs)::R.eraseIdx i) F:=by
 obtain ⟨hl,hnd⟩:=h.nestOk hR
 have h1:=h.front hR
 have h2:=h1.rows _ (qBp ..)
 have ho:=qjX (hs:=hs) 0 j (xs.zip gs) hj (by rwa [qB0])
 rw[qB0] at ho
 have hof:=ho.flatMap_right rin
 rw[qBz] at hof
 have hin:∀ f∈(outs hs 0 (xs.zip gs)).flatMap rin,f.own w:=fun f hf=>h2.2 f (qBt _ hf)
 refine h1.rowsP (fun r hr=>?_) ?_
 ·rcases qBg.1 hr with hr | hr
  ·obtain ⟨f,hf,rfl⟩:=qBI.1 hr
   exact RowD.owns_one (hin f (hof.mem_iff.2 (qBg.2 (.inl hf)))) rfl
  ·rcases qBi.1 hr with rfl | hr
   ·refine ⟨h2.1,fun f hf=>?_⟩
    rcases qBi.1 hf with rfl | hf
    ·exact qcH.2 (by simp[hl,hnd,hn])
    ·exact hin f (hof.mem_iff.2 (qBg.2 (.inr hf)))
   ·exact h1.rows r (qBt _ hr)
 ·rw[qCK,qBz,qBz,qhI,qaq,qaq]
  have h3:=hof.filterMap (·.v.ownBlock)
  rw[List.filterMap_append] at h3
  refine ((h3.append_left v.ownBlock.toList).append_right _).trans ?_
  rw[← qBn,← qBn,← qBn]
  exact (List.perm_append_comm.append_right _).append_right _
theorem Hp.closeN {p:α×γ}(h:Hp M0 w0 w B R F)(hT:Takes R ((rin p).map RowF.row) R')(hR:R'[i]?=some (RoN enc rin e size v xs gs hs))(hk:hs[k]?=some j)(hj:(xs.zip gs)[j]?=some p) :
  Hp M0 w0 w B (RoN enc rin e size v xs gs (hs.eraseIdx k)::R'.eraseIdx i) F:=by
 have h0:=h.perm (qBF _) hT.perm
 have hp:((rin p).map RowF.row++R').Perm ((rin p).map RowF.row++RoN enc rin e size v xs gs hs::R'.eraseIdx i):=(qei hR).append_left _
 have h1:=h0.perm (qBF _) hp
 have hN:=h1.nestOk (i:=((rin p).map RowF.row).length) (by rw[List.getElem?_append_right (qBo _),Nat.sub_self];rfl)
 obtain ⟨hl,hnd⟩:=hN
 obtain ⟨b1,b2,b3⟩:=qqT hk hnd
 have ho:=qjX (hs:=hs.eraseIdx k) 0 j (xs.zip gs) hj (by simp_all)
 rw[qB0,qlu b3] at ho
 have hof:=ho.flatMap_right rin
 rw[qBz] at hof
 have h2:=h1.rows (RoN enc rin e size v xs gs hs) (by simp)
 refine h1.rowsP (fun r hr=>?_) ?_
 ·rcases qBi.1 hr with rfl | hr
  ·refine ⟨h2.1,fun f hf=>?_⟩
   rcases qBi.1 hf with rfl | hf
   ·grind [qcH]
   ·rcases qBg.1 (hof.mem_iff.1 hf) with hf | hf
    ·exact (h1.rows f.row (qBg.2 (.inl (qBI.2 ⟨f,hf,rfl⟩)))).1
    ·exact h2.2 f (qBt _ hf)
  ·exact h1.rows r (by grind)
 grind [qhI,qaq]
theorem qoR {y:α}{q:γ}:∀ (xs:List α) (gs:List γ) (j:Nat),(xs.set j y).zip (gs.set j q)=(xs.zip gs).set j (y,q)
 | [],gs,j=>by simp
 | x::xs,[],j=>by simp
 | x::xs,g::gs,0=>by simp
 | x::xs,g::gs,j+1=>by
  rw[qCN,qCN,qDp,qDp,qCN,qoR xs gs j]
theorem qjc {β:Type}{enc:β→List Value}{p p':β}(he:enc p'=enc p):∀ (ps:List β) (j:Nat),ps[j]?=some p→(ps.set j p').flatMap enc=ps.flatMap enc
 | [],j,h=>by rfl
 | x::ps,0,h=>by
  simp_all
 | x::ps,j+1,h=>by
  rw[qCN,qBz,qBz,qjc he ps j (by grind)]
theorem Hp.turnN {p:α×γ}{y:α}{q:γ}(h:Hp M0 w0 w B R F)(hR:R[i]?=some (RoN enc rin e size v xs gs hs))(hk:j∈hs)(hj:(xs.zip gs)[j]?=some p)(he:enc (y,q)=enc p) :
  Hp M0 w0 w B (RoN enc rin e size v (xs.set j y) (gs.set j q) hs::R.eraseIdx i) F:=by
 obtain ⟨hl,hnd⟩:=h.nestOk hR
 have h1:=h.front hR
 have h2:=h1.rows _ (qBp ..)
 have hz:=qoR (y:=y) (q:=q) xs gs j
 have ho:outs hs 0 ((xs.set j y).zip (gs.set j q))=outs hs 0 (xs.zip gs):=by rw[hz];exact qlv 0 j _ (by simp_all)
 refine h1.rowsP (fun r hr=>?_) ?_
 ·rcases qBi.1 hr with rfl | hr
  ·refine ⟨?_,fun f hf=>?_⟩
   ·have h3:w.ownsRow 0 e size v xs.length ((xs.zip gs).flatMap enc):=h2.1
    show w.ownsRow 0 e size v (xs.set j y).length (((xs.set j y).zip (gs.set j q)).flatMap enc)
    grind [qjc]
   ·rcases qBi.1 hf with rfl | hf
    ·grind [qcH]
    ·rw[ho] at hf
     exact h2.2 f (qBt _ hf)
  ·exact h1.rows r (qBt _ hr)
 grind [qaq]
theorem Hp.nestOf (h:Hp M0 w0 w B R F)(hR:R[i]?=some (Ro enc e size v (xs.zip gs)))(hl:gs.length=xs.length)(hT:Takes (R.eraseIdx i) (((xs.zip gs).flatMap rin).map RowF.row) R') :
  Hp M0 w0 w B (RoN enc rin e size v xs gs []::R') F:=by
 have h1:=h.perm (qBF _) ((qei hR).trans (hT.perm.cons _))
 have h2:=h1.rows _ (qBp ..)
 refine h1.rowsP (fun r hr=>?_) ?_
 ·rcases qBi.1 hr with rfl | hr
  ·refine ⟨?_,fun f hf=>?_⟩
   ·have h3:w.ownsRow 0 e size v (xs.zip gs).length ((xs.zip gs).flatMap enc):=h2.1
    show w.ownsRow 0 e size v xs.length ((xs.zip gs).flatMap enc)
    simp_all
   ·rcases qBi.1 hf with rfl | hf
    ·grind [qcH]
    ·rw[qcd] at hf
     exact (h1.rows f.row (by grind)).1
  ·exact h1.rows r (by grind)
 grind [qhI,qaq,qcd,qhS]
theorem Hp.nestNil (h:Hp M0 w0 w B R F)(hR:R[i]?=some (Ro enc e size v (xs.zip gs)))(hl:gs.length=xs.length)(hz:∀ p∈xs.zip gs,∀ f∈rin p,f.v=.slice none 0 0∧f.n=0∧f.cs=[]) :
  Hp M0 w0 w B (RoN enc rin e size v xs gs []::R.eraseIdx i) F:=by
 have h1:=h.front hR
 have h2:=h1.rows _ (qBp ..)
 have hz':∀ f∈(xs.zip gs).flatMap rin,f.v=.slice none 0 0∧f.n=0∧f.cs=[]:=fun f hf=>by
  grind
 refine h1.rowsP (fun r hr=>?_) ?_
 ·rcases qBi.1 hr with rfl | hr
  ·refine ⟨?_,fun f hf=>?_⟩
   ·have h3:w.ownsRow 0 e size v (xs.zip gs).length ((xs.zip gs).flatMap enc):=h2.1
    show w.ownsRow 0 e size v xs.length ((xs.zip gs).flatMap enc)
    simp_all
   ·rcases qBi.1 hf with rfl | hf
    ·grind [qcH]
    ·rw[qcd] at hf
     obtain ⟨e1,e2,e3⟩:=hz' f hf
     exact ⟨by simp_all,.inl ⟨e1,e2⟩⟩
  ·exact h1.rows r (qBt _ hr)
 ·rw[qBz,qBz,qaq,qcd,qhS]
  have:((xs.zip gs).flatMap rin).filterMap (·.v.ownBlock)=[]:=by
   rw[List.filterMap_eq_nil_iff]
   intro f hf
   rw[(hz' f hf).1];rfl
  grind
theorem kj {inn:α×γ→List (World→Prop)}(hri:∀ p,inn p=(rin p).map RowF.cells):∀ w,(RoN enc rin e size v xs gs []).owns w→SlN enc inn size v xs gs w:=by
 intro w h
 have hl:gs.length=xs.length:=by
  have:=h.2 (guardF (decide (gs.length=xs.length∧([]:List Nat).Nodup))) (qBp ..)
  have h2:=qcH.1 this
  simp_all
 refine ⟨hl,?_,fun p hp φ hφ=>?_⟩
 ·have h4:w.ownsRow 0 e size v xs.length ((xs.zip gs).flatMap enc):=h.1
  show Cells v (xs.zip gs).length size ((xs.zip gs).flatMap enc) w
  grind [zn]
 ·rw[hri] at hφ
  obtain ⟨f,hf,rfl⟩:=qBI.1 hφ
  have hfm:f∈(outs [] 0 (xs.zip gs)).flatMap rin:=by grind [qcd]
  exact zn (h.2 f (qBt _ hfm))
theorem qxn {i:Int}{y:α}(hl:gs.length=xs.length)(h:idx xs i=some y):∃ q,(xs.zip gs)[i.toNat]?=some (y,q):=by
 obtain ⟨_,_,h3⟩:=qu h
 simp_all
theorem qwU {k:α→Option ρ}{i:Int}(hw:wants ops l ⟨some d,.indexAddr t' x ix,t,pos,af,gd⟩=some true)(ht:P.underlying t'=some (.slice e))(hT:TyF P e agg z size bytes)(hx:ev l x=some (.slice ao xs.length c))(hi:ev l ix=some (.int ki i))(hR:R[j]?=some (RoN enc rin e size (.slice ao xs.length c) xs gs hs))(hd:Nat.blt d n=true)(h:∀ y,idx xs i=some y→∀ q,(xs.zip gs)[i.toNat]?=some (y,q)→∀ g,(Value.slice ao xs.length c).ownBlock=some g→SXO P ro n D M0 w0 Q ops rest ((d,.pointer (some ⟨g,i.toNat*size,none⟩))::l) B R F (k y) r) :
  SXO P ro n D M0 w0 Q ops (⟨some d,.indexAddr t' x ix,t,pos,af,gd⟩::rest) l B R F ((idx xs i).bind k) r:=by
 intro hm a w hf hp
 obtain ⟨hl,_⟩:=hp.nestOk hR
 have hu:=hp.unN hR
 have hm2:=hm
 rw[← qsq hl] at hm2
 have hx':ev l x=some (.slice ao (xs.zip gs).length c):=by simp_all
 refine qcC (R:=Ro enc e size (.slice ao (xs.zip gs).length c) (xs.zip gs)::InR rin (xs.zip gs) hs::R.eraseIdx j) (j:=0) (k:=fun p=>k p.1) hw ht hT hx' hi rfl hd (fun p hq g hg=>?_) hm2 a w hf (by rw[qeZ hl];exact hu)
 intro hm' a' w' hf' hp'
 have hback:Hp M0 w0 w' B R F:=by
  rw[qeZ hl] at hp'
  have h1:=hp'.reN (hp.nestOk hR).2
  rw[show (xs.zip gs).map (·.1)=xs from qCT (by omega),show (xs.zip gs).map (·.2)=gs from qDC (by omega)] at h1
  exact h1.perm (qBF _) (qei hR).symm
 obtain ⟨_,_,h3⟩:=qu hq
 rw[qeZ hl] at hg
 exact h p.1 (qjj hq) p.2 h3 g hg hm' a' w' hf' hback
theorem qqb {x:Code}{k:α→Option ρ}{i:Int}(hR:R[j]?=some (RoN enc rin e size (.slice ao xs.length c) xs gs hs))(h:∀ y,idx xs i=some y→∀ q,(xs.zip gs)[i.toNat]?=some (y,q)→∀ g,ao=some ⟨g,0,none⟩→SXC P ro n D M0 w0 Q x l B R F (k y) r) :
  SXC P ro n D M0 w0 Q x l B R F ((idx xs i).bind k) r:=by
 intro hm a w hf hp
 obtain ⟨hl,_⟩:=hp.nestOk hR
 cases hq:idx xs i with
 | none=>simp_all
 | some y =>
  rw[hq] at hm
  have hm':k y=some r:=by grind
  obtain ⟨q,hz⟩:=qxn hl hq
  obtain ⟨_,hlt,_⟩:=qu hq
  have hown:=hp.row _ (qBe hR)
  rcases hown.2 with ⟨h5,h6⟩ | ⟨g,cap,cur,h5,_⟩
  ·have h6':xs.length=0:=h6
   omega
  ·have h5':Value.slice ao xs.length c=.slice (some ⟨g,0,none⟩) xs.length cap:=h5
   simp only[Value.slice.injEq] at h5'
   exact h y hq q hz g h5'.1 hm' a w hf hp
theorem qkc {p:α×γ}(hR:R[i]?=some (RoN enc rin e size v xs gs hs))(hj:(xs.zip gs)[j]?=some p)(hn:j∉hs)(h:SXO P ro n D M0 w0 Q ops rest l B ((rin p).map RowF.row++RoN enc rin e size v xs gs (j::hs)::R.eraseIdx i) F m r):SXO P ro n D M0 w0 Q ops rest l B R F m r :=
 fun hm a w hf hp=>h hm a w hf (hp.openN hR hj hn)
theorem qe3 {x:Code}{p:α×γ}(hR:R[i]?=some (RoN enc rin e size v xs gs hs))(hj:(xs.zip gs)[j]?=some p)(hn:j∉hs)(h:SXC P ro n D M0 w0 Q x l B ((rin p).map RowF.row++RoN enc rin e size v xs gs (j::hs)::R.eraseIdx i) F m r):SXC P ro n D M0 w0 Q x l B R F m r :=
 fun hm a w hf hp=>h hm a w hf (hp.openN hR hj hn)
theorem qiG {x:Code}{p:α×γ}(hT:Takes R ((rin p).map RowF.row) R')(hR:R'[i]?=some (RoN enc rin e size v xs gs hs))(hk:hs[k]?=some j)(hj:(xs.zip gs)[j]?=some p)(h:SXC P ro n D M0 w0 Q x l B (RoN enc rin e size v xs gs (hs.eraseIdx k)::R'.eraseIdx i) F m r):SXC P ro n D M0 w0 Q x l B R F m r :=
 fun hm a w hf hp=>h hm a w hf (hp.closeN hT hR hk hj)
theorem Hp.closeT {p:α×γ}{y:α}{q:γ}(hp:Hp M0 w0 w B R F)(hT:Takes R ((rin (y,q)).map RowF.row) R')(hR:R'[i]?=some (RoN enc rin e size v xs gs hs))(hk:hs[k]?=some j)(hj:(xs.zip gs)[j]?=some p)(he:enc (y,q)=enc p) :
  Hp M0 w0 w B (RoN enc rin e size v (xs.set j y) (gs.set j q) (hs.eraseIdx k)::R'.eraseIdx i) F:=by
 have h0:=hp.perm (qBF _) hT.perm
 have hp2:((rin (y,q)).map RowF.row++R').Perm (RoN enc rin e size v xs gs hs::((rin (y,q)).map RowF.row++R'.eraseIdx i)) :=
  ((qei hR).append_left _).trans qCe
 have h1:=h0.perm (qBF _) hp2
 have h2:=h1.turnN (i:=0) rfl (qBe hk) hj he
 have h3:=h2.perm (qBF _) (qCe (l₁:=(rin (y,q)).map RowF.row) (a:=RoN enc rin e size v (xs.set j y) (gs.set j q) hs) (l₂:=R'.eraseIdx i)).symm
 have hz:((xs.set j y).zip (gs.set j q))[j]?=some (y,q):=by grind
 have hTk:∀ (A C:List RowD),Takes (A++C) A C:=by
  intro A
  induction A with
  | nil=>intro C;exact .nil
  | cons a A ih=>intro C;exact .cons 0 rfl (ih C)
 exact h3.closeN (i:=0) (hTk _ _) rfl hk hz
theorem qrs {x:Code}{kh:Nat}{p:α×γ}{y:α}{q:γ}{k:List α→Option ρ}(hT:Takes R ((rin (y,q)).map RowF.row) R')(hR:R'[i]?=some (RoN enc rin e size (.slice ao xs.length c) xs gs hs))(hk:hs[kh]?=some j)(hj:(xs.zip gs)[j]?=some p)(he:enc (y,q)=enc p)(h:∀ ys,xs.set j y=ys→Value.slice ao xs.length c=.slice ao ys.length c→∀ ks:List γ,SXC P ro n D M0 w0 Q x l B (RoN enc rin e size (.slice ao ys.length c) ys ks (hs.eraseIdx kh)::R'.eraseIdx i) F (k ys) r):SXC P ro n D M0 w0 Q x l B R F (lett (xs.set j y) k) r:=by
 intro hm a w hf hp
 have h1:=h _ rfl (by simp) (gs.set j q)
 refine h1 hm a w hf ?_
 rw[qBs]
 exact hp.closeT hT hR hk hj he
theorem qwJ {x:Code}{u:Value}(hu:look l d=some u)(he:u=v)(h:SXC P ro n D M0 w0 Q x ((d,v)::l) B R F m r):SXC P ro n D M0 w0 Q x l B R F m r :=
 fun hm a w hf hp=>h hm a w (hf.again hu he) hp
theorem qor {x:Code}{g e:Nat}{cs cs':List Value}(hB:B[i]?=some ⟨g,e,cs⟩)(he:cs=cs')(h:SXC P ro n D M0 w0 Q x l (B.set i ⟨g,e,cs'⟩) R F m r):SXC P ro n D M0 w0 Q x l B R F m r:=by
 subst he
 have:B.set i ⟨g,e,cs⟩=B:=by
  apply qBO
  grind
 simp_all
theorem quj {g:Nat}{p:α×γ}(henc:EncOk enc esz)(hw:wants ops l ⟨some d,.load t' x,t,pos,af,gd⟩=some true)(hx:ev l x=some (.pointer (some ⟨g,i*esz+off,none⟩)))(hT:TyF P t' agg z size bytes)(hR:R[j]?=some (RoN enc rin e esz v xs gs hs))(hg:v.ownBlock=some g)(hy:(xs.zip gs)[i]?=some p)(hl:(((enc p).drop off).take size).length=size)(hs:agg=false→size=1)(hV:(if agg then .agg (((enc p).drop off).take size).toArray else (((enc p).drop off).take size).getD 0 undef)=V)(hd:Nat.blt d n=true)(h:SXO P ro n D M0 w0 Q ops rest ((d,V)::l) B R F m r):SXO P ro n D M0 w0 Q ops (⟨some d,.load t' x,t,pos,af,gd⟩::rest) l B R F m r :=
 qO V hw rfl hd (fun a w hf hp=>by
  have h1:=hf.ev hx
  have hu:=hp.unN hR
  have hc:ve g (i*esz) (enc p) w:=qlD henc (hu.row _ (qBp ..)) hg hy
  have hr:=qar hT hc.part hl hV.symm hs
  generalize a.eval=ε at h1 ⊢
  simp[execOp,h1,Instr.loadAt,Instr.sureAddr,hr]) h
theorem qiJ {g:Nat}{p:α×γ}(henc:EncOk enc esz)(hw:wants ops l ⟨some d,.load t' x,t,pos,af,gd⟩=some true)(hx:ev l x=some (.pointer (some ⟨g,i*esz,none⟩)))(hT:TyF P t' agg z size bytes)(hR:R[j]?=some (RoN enc rin e esz v xs gs hs))(hg:v.ownBlock=some g)(hy:(xs.zip gs)[i]?=some p)(hl:(enc p).length=size)(hs:agg=false→size=1)(hV:(if agg then .agg (enc p).toArray else (enc p).getD 0 undef)=V)(hd:Nat.blt d n=true)(h:SXO P ro n D M0 w0 Q ops rest ((d,V)::l) B R F m r):SXO P ro n D M0 w0 Q ops (⟨some d,.load t' x,t,pos,af,gd⟩::rest) l B R F m r:=by
 have e1:((enc p).drop 0).take size=enc p:=by grind
 exact quj (off:=0) henc hw hx hT hR hg hy (by simp_all) hs (by simp_all) hd h
theorem qrF {y:Operand}{g:Nat}{y':α}{q':γ}{k:List α→Option ρ}(henc:EncOk enc size)(hw:wants ops l ⟨none,.store t' x y,t,pos,af,gd⟩=some true)(hx:ev l x=some (.pointer (some ⟨g,i*size,none⟩)))(hy:ev l y=some V)(hT:TyF P t' agg z size bytes)(hR:R[j]?=some (RoN enc rin e size (.slice ao xs.length c) xs gs hs))(hg:(Value.slice ao xs.length c).ownBlock=some g)(hh:i∈hs)(hi:i<xs.length)(hV:V.cells.toList=enc (y',q'))(h:∀ ys,xs.set i y'=ys→Value.slice ao xs.length c=.slice ao ys.length c→SXO P ro n D M0 w0 Q ops rest l B (RoN enc rin e size (.slice ao ys.length c) ys (gs.set i q') hs::R.eraseIdx j) F (k ys) r) :
  SXO P ro n D M0 w0 Q ops (⟨none,.store t' x y,t,pos,af,gd⟩::rest) l B R F (lett (xs.set i y') k) r:=by
 intro hm a w hf hp
 obtain ⟨hl,hnd⟩:=hp.nestOk hR
 have hu:=hp.unN hR
 have hsl:(xs.set i y').length=xs.length:=qBs
 refine qlX (R:=Ro enc e size (.slice ao xs.length c) (xs.zip gs)::InR rin (xs.zip gs) hs::R.eraseIdx j) (j:=0) (m:=lett (xs.set i y') k) henc hw hx hy hT rfl hg (by simp_all) hV ?_ hm a w hf hu
 intro hm' a' w' hf' hp'
 have h1:=h _ rfl (by simp)
 refine h1 hm' a' w' hf' ?_
 have e1:InR rin (xs.zip gs) hs=InR rin ((xs.zip gs).set i (y',q')) hs:=by
  unfold InR
  rw[qlv 0 i _ (by simp_all)]
 have hp2:Hp M0 w0 w' B (Ro enc e size (.slice ao xs.length c) ((xs.zip gs).set i (y',q'))::InR rin ((xs.zip gs).set i (y',q')) hs::R.eraseIdx j) F:=by
  simp_all
 have h3:=hp2.reN hnd
 rw[← qoR,show ((xs.set i y').zip (gs.set i q')).map (·.1)=xs.set i y' from qCT (by simp_all),show ((xs.set i y').zip (gs.set i q')).map (·.2)=gs.set i q' from qDC (by simp_all)] at h3
 simp_all
theorem jN {y:Operand}{g kh:Nat}{y':α}{q':γ}{k:List α→Option ρ}(henc:EncOk enc size)(hw:wants ops l ⟨none,.store t' x y,t,pos,af,gd⟩=some true)(hx:ev l x=some (.pointer (some ⟨g,i*size,none⟩)))(hy:ev l y=some V)(hT:TyF P t' agg z size bytes)(hR:R[j]?=some (RoN enc rin e size (.slice ao xs.length c) xs gs hs))(hg:(Value.slice ao xs.length c).ownBlock=some g)(hk:hs[kh]?=some i)(hi:i<xs.length)(hV:V.cells.toList=enc (y',q'))(hTk:Takes (R.eraseIdx j) ((rin (y',q')).map RowF.row) R')(h:∀ ys,xs.set i y'=ys→Value.slice ao xs.length c=.slice ao ys.length c→∀ ks:List γ,SXO P ro n D M0 w0 Q ops rest l B (RoN enc rin e size (.slice ao ys.length c) ys ks (hs.eraseIdx kh)::R') F (k ys) r) :
  SXO P ro n D M0 w0 Q ops (⟨none,.store t' x y,t,pos,af,gd⟩::rest) l B R F (lett (xs.set i y') k) r:=by
 intro hm a w hf hp
 obtain ⟨hl,hnd⟩:=hp.nestOk hR
 refine qrF henc hw hx hy hT hR hg (qBe hk) hi hV (fun ys hys hv=>?_) hm a w hf hp
 intro hm' a' w' hf' hp'
 refine h ys hys hv (gs.set i q') hm' a' w' hf' ?_
 have hz:((xs.set i y').zip (gs.set i q'))[i]?=some (y',q'):=by
  grind
 rw[hys] at hz
 have hp2:=hp'.perm (qBF _) (hTk.perm.cons _)
 have hp3:=hp2.perm (qBF _) (qCe (l₁:=(rin (y',q')).map RowF.row) (a:=RoN enc rin e size (.slice ao ys.length c) ys (gs.set i q') hs) (l₂:=R')).symm
 have hTkk:∀ (A C:List RowD),Takes (A++C) A C:=by
  intro A
  induction A with
  | nil=>intro C;exact .nil
  | cons a A ih=>intro C;exact .cons 0 rfl (ih C)
 exact hp3.closeN (i:=0) (hTkk _ _) rfl hk hz
theorem qlW (xs:List α)(gs:List γ)(hR:R[i]?=some (Ro enc e size v (xs.zip gs)))(hl:gs.length=xs.length)(hT:Takes (R.eraseIdx i) (((xs.zip gs).flatMap rin).map RowF.row) R')(h:SXO P ro n D M0 w0 Q ops rest l B (RoN enc rin e size v xs gs []::R') F m r):SXO P ro n D M0 w0 Q ops rest l B R F m r :=
 fun hm a w hf hp=>h hm a w hf (hp.nestOf hR hl hT)
theorem qrc {zc:List Value}(hsz:zc.length=size)(h0:size≠0){ca:Array Value}(hc:ca.toList=zc)(k:Nat):(madeCells ca (k*size)).toList=(qBd k zc).flatten:=by
 have hca:ca.size=size:=by rw[← hsz,← hc,Array.length_toList]
 have hfl:∀ (k:Nat),((qBd k zc).flatten).length=k*size:=by
  intro k
  induction k with
  | zero=>simp
  | succ k ih=>rw[qCi,qDx,qBk,ih,hsz,Nat.succ_mul];omega
 apply qB8
 ·rw[hfl];simp[madeCells]
 ·intro i h1 h2
  have hi:i<k*size:=by rw[hfl] at h2;exact h2
  have hget:∀ (k i:Nat) (h:i<((qBd k zc).flatten).length),((qBd k zc).flatten)[i]=zc[i%size]'(by rw[hsz];exact Nat.mod_lt _ (by omega)):=by
   intro k
   induction k with
   | zero=>intro i h;simp at h
   | succ k ih =>
    intro i h
    simp only[qCi,qDx,List.getElem_append]
    split
    ·rename_i hlt
     have:i%size=i:=Nat.mod_eq_of_lt (by omega)
     simp only[this]
    ·rename_i hlt
     rw[ih]
     have:(i-zc.length)%size=i%size:=by
      rw[hsz]
      have hge:size≤i:=by omega
      exact (Nat.mod_eq_sub_mod hge).symm
     simp only[this]
  rw[hget]
  simp only[madeCells,Array.getElem_toList,Array.getElem_map,Array.getElem_range]
  have hlt:i%ca.size<ca.size:=Nat.mod_lt _ (by omega)
  rw[getElem!_pos ca _ hlt]
  subst hc
  simp only[Array.getElem_toList,hca]
theorem qnT {enc:β→List Value}{y:β}{zc:List Value}(h:enc y=zc)(k:Nat):(qBd k y).flatMap enc=(qBd k zc).flatten:=by
 induction k with
 | zero=>rfl
 | succ k ih=>grind
theorem qs9 {enc:β→List Value}{y:β}{k:List β→Option ρ}{c:Operand}{kl kc:IntKind}{i:Int}(henc:EncOk enc size)(hs0:size≠0)(hw:wants ops l ⟨some d,.makeSlice t' x c,t,pos,af,gd⟩=some true)(ht:P.underlying t'=some (.slice e))(hT:TyF P e agg z size bytes)(hx:ev l x=some (.int kl i))(hc:ev l c=some (.int kc i))(hy:enc y=z.cells.toList)(hlim:Nat.ble lim 9223372036854775807=true)(hlb:Nat.ble (lim*bytes) 281474976710656=true)(hd:Nat.blt d n=true)(h:∀ ys,mk lim y i=some ys→∀ a c,SXO P ro n D M0 w0 Q ops rest ((d,.slice a ys.length c)::l) B (Ro enc e size (.slice a ys.length c) ys::R) F (k ys) r) :
  SXO P ro n D M0 w0 Q ops (⟨some d,.makeSlice t' x c,t,pos,af,gd⟩::rest) l B R F ((mk lim y i).bind k) r:=by
 refine k7 hw fun hm a w hf hp=>?_
 cases hq:mk lim y i with
 | none=>simp_all
 | some ys =>
  rw[hq] at hm
  have hm':k ys=some r:=by grind
  have hq0:=hq
  unfold mk at hq
  split at hq
  ·rename_i hb
   simp only[qBl] at hq
   obtain ⟨N,rfl⟩:=qBf hb.1
   have hN:N≤lim:=by omega
   have hlim':=qBS hlim
   have hlb':=qBS hlb
   obtain ⟨i0,hi,hz0,hs0',hb0⟩:=hT.inf
   subst hb0
   obtain ⟨w',hr,ho,hk⟩:=qm4 (P:=P) (w:=w) ht hi hz0 hs0' kl kc N (qCc (qBG _ hN) hlb') (by grind [maxLen])
   have h1:=hf.ev hx
   have h2:=hf.ev hc
   have hyl:ys.length=N:=by grind
   have hzl:z.cells.toList.length=size:=by rw[← hy];exact henc.len y
   have hz:=h ys hq0 (some ⟨w.heap.size,0,none⟩) N
   rw[hyl] at hz
   refine ⟨_,w',?_,hz hm' _ _ (hf.put hd (.slice (some ⟨w.heap.size,0,none⟩) N N)) (hp.addRow hk ?_ ?_)⟩
   ·generalize a.eval=ε at h1 h2 ⊢
    simp[execOp,h1,h2,hr]
   ·show w'.ownsRow 0 e size _ ys.length (ys.flatMap enc)
    rw[hyl,← hq]
    simp only[qBh]
    rw[qnT hy,← qrc hzl hs0 rfl]
    exact ho
   grind [Ro,Value.ownBlock]
  simp_all
theorem qyC {y:α}{q:γ}{k:List α→Option ρ}{c:Operand}{kl kc:IntKind}{i:Int}(henc:EncOk enc size)(hs0:size≠0)(hri:∀ f∈rin (y,q),f.v=.slice none 0 0∧f.n=0∧f.cs=[])(hw:wants ops l ⟨some d,.makeSlice t' x c,t,pos,af,gd⟩=some true)(ht:P.underlying t'=some (.slice e))(hT:TyF P e agg z size bytes)(hx:ev l x=some (.int kl i))(hc:ev l c=some (.int kc i))(hy:enc (y,q)=z.cells.toList)(hlim:Nat.ble lim 9223372036854775807=true)(hlb:Nat.ble (lim*bytes) 281474976710656=true)(hd:Nat.blt d n=true)(h:∀ ys,mk lim y i=some ys→∀ a c,SXO P ro n D M0 w0 Q ops rest ((d,.slice a ys.length c)::l) B (RoN enc rin e size (.slice a ys.length c) ys (qBd ys.length q) []::R) F (k ys) r) :
  SXO P ro n D M0 w0 Q ops (⟨some d,.makeSlice t' x c,t,pos,af,gd⟩::rest) l B R F ((mk lim y i).bind k) r:=by
 have hmk:(mk lim y i).bind k=(mk lim (y,q) i).bind (fun ps=>k (ps.map (·.1))):=by
  unfold mk
  split
  ·simp
  ·rfl
 rw[hmk]
 refine qs9 (enc:=enc) henc hs0 hw ht hT hx hc hy hlim hlb hd fun ps hps a0 c0=>?_
 have h1:mk lim y i=some (ps.map (·.1))∧ps=((ps.map (·.1)).zip (qBd (ps.map (·.1)).length q))∧∀ p∈ps,p=(y,q):=by
  unfold mk at hps ⊢
  split at hps
  ·rename_i hb
   simp only[qBl] at hps
   rw[if_pos hb,← hps]
   refine ⟨by simp,?_,fun p hp=>(List.mem_replicate.1 hp).2⟩
   rw[List.map_replicate,qBT,List.zip_replicate']
  ·simp at hps
 obtain ⟨h1,h2,h3⟩:=h1
 have h4:=h _ h1 a0 c0
 rw[qBD] at h4
 intro hm a w hf hp
 refine h4 hm a w hf ?_
 have hp':Hp M0 w0 w B (Ro enc e size (.slice a0 ps.length c0) ((ps.map (·.1)).zip (qBd (ps.map (·.1)).length q))::R) F:=by rw[← h2];exact hp
 have:=hp'.nestNil (i:=0) (rin:=rin) rfl (by simp) (fun p hp f hf=>by
  rw[← h2] at hp
  rw[h3 p hp] at hf
  exact hri f hf)
 rw[qBD] at this
 exact this
theorem qw0 (α γ:Type)(enc:α×γ→List Value)(rin:α×γ→List RowF)(e:TypeId)(size:Nat)(h:SXO P ro n D M0 w0 Q ops rest l B (RoN enc rin e size (.slice none 0 0) ([]:List α) ([]:List γ) []::R) F m r):SXO P ro n D M0 w0 Q ops rest l B R F m r :=
 qfT (α×γ) enc e size fun hm a w hf hp=>h hm a w hf (hp.nestNil (i:=0) (xs:=[]) (gs:=[]) rfl rfl (by simp))
theorem nilN (α γ:Type)(enc:α×γ→List Value)(rin:α×γ→List RowF)(e:TypeId)(size:Nat)(hp:Hp M0 w0 w B R F):Hp M0 w0 w B (RoN enc rin e size (.slice none 0 0) ([]:List α) ([]:List γ) []::R) F :=
 (hp.addRow (r:=Ro enc e size (.slice none 0 0) (([]:List α).zip ([]:List γ))) (Keeps.refl _ _) ⟨by simp[Ro],.inl ⟨rfl,rfl⟩⟩ (by simp[Ro,Value.ownBlock])).nestNil (i:=0) (xs:=[]) (gs:=[]) rfl rfl (by simp)
theorem qwK {x:Code}(α γ:Type)(enc:α×γ→List Value)(rin:α×γ→List RowF)(e:TypeId)(size:Nat)(h:SXC P ro n D M0 w0 Q x l B (RoN enc rin e size (.slice none 0 0) ([]:List α) ([]:List γ) []::R) F m r):SXC P ro n D M0 w0 Q x l B R F m r :=
 fun hm a w hf hp=>h hm a w hf (nilN α γ enc rin e size hp)
theorem qw5 {x:Exit}(α γ:Type)(enc:α×γ→List Value)(rin:α×γ→List RowF)(e:TypeId)(size:Nat)(h:SXQ n D M0 w0 Q x l B (RoN enc rin e size (.slice none 0 0) ([]:List α) ([]:List γ) []::R) F m r):SXQ n D M0 w0 Q x l B R F m r :=
 fun hm a w hf hp=>h hm a w hf (nilN α γ enc rin e size hp)
theorem qI {p:α×γ}{g e:Nat}(henc:EncOk enc size)(hy:(xs.zip gs)[i]?=some p)(ha:ao=some ⟨g,0,none⟩) :
  ∀ w,Cells (RoN enc rin e size (.slice ao xs.length c) xs gs hs).v (RoN enc rin e size (.slice ao xs.length c) xs gs hs).n (RoN enc rin e size (.slice ao xs.length c) xs gs hs).size (RoN enc rin e size (.slice ao xs.length c) xs gs hs).cs w→ve g (i*size) (enc p) w:=by
 intro w h jj u hj
 obtain ⟨⟨ao',cap',hv',_,_,_,hc'⟩,_⟩:=(h:Cells (.slice ao xs.length c) xs.length size ((xs.zip gs).flatMap enc) w)
 have hv2:Value.slice ao xs.length c=.slice ao' xs.length cap':=hv'
 simp only[Value.slice.injEq] at hv2
 obtain ⟨rfl,-,-⟩:=hv2
 obtain ⟨ad',h3,h4⟩:=hc' (i*size+jj) u (vb henc _ i p jj u hy hj)
 simp_all
theorem qqd {ys:List α}{ks:List γ}{k:List α→Option ρ}{s:Operand}{uo:Option Addr}{ca cu:Nat}{RS:List RowD}(henc:EncOk enc size)(hw:wants ops l ⟨some d,.call ⟨.builtin .append,#[s,x],#[t',t']⟩,t,pos,af,gd⟩=some true)(ht:P.underlying t'=some (.slice e))(hT:TyF P e agg z size bytes)(hzs:z.cells.size=size)(hd:Nat.blt d n=true)(hs:ev l s=some (.slice ao xs.length ca))(hx:ev l x=some (.slice uo ys.length cu))(hTk:Takes R [RoN enc rin e size (.slice ao xs.length ca) xs gs [],RoN enc rin e size (.slice uo ys.length cu) ys ks []] RS)(hlim:Nat.ble lim 9223372036854775807=true)(hlb:Nat.ble (lim*bytes) 140737488355328=true)(h:∀ zs,app lim xs ys=some zs→∀ a c,SXO P ro n D M0 w0 Q ops rest ((d,.slice a zs.length c)::l) B (RoN enc rin e size (.slice a zs.length c) zs (gs++ks) []::RS) F (k zs) r) :
  SXO P ro n D M0 w0 Q ops (⟨some d,.call ⟨.builtin .append,#[s,x],#[t',t']⟩,t,pos,af,gd⟩::rest) l B R F ((app lim xs ys).bind k) r:=by
 intro hm a w hf hp
 have hp0:=hp.perm (qBF _) hTk.perm
 obtain ⟨hl1,_⟩:=hp0.nestOk (i:=0) rfl
 obtain ⟨hl2,_⟩:=hp0.nestOk (i:=1) rfl
 have hp1:=hp0.unN (i:=0) rfl
 have hp2:=hp1.unN (i:=2) rfl
 have happ:(app lim xs ys).bind k=(app lim (xs.zip gs) (ys.zip ks)).bind (fun ps=>k (ps.map (·.1))):=by
  grind [app,qCT]
 rw[happ] at hm
 have hs':ev l s=some (.slice ao (xs.zip gs).length ca):=by simp_all
 have hx':ev l x=some (.slice uo (ys.zip ks).length cu):=by simp_all
 have hp3:Hp M0 w0 w B (Ro enc e size (.slice ao (xs.zip gs).length ca) (xs.zip gs)::Ro enc e size (.slice uo (ys.zip ks).length cu) (ys.zip ks)::InR rin (xs.zip gs) []::InR rin (ys.zip ks) []::RS) F:=by
  rw[qeZ hl1,qeZ hl2]
  refine hp2.perm (qBF _) ?_
  have p1:∀ (a2 b2 a1 b1:RowD) (S:List RowD),(a2::b2::a1::b1::S).Perm (a1::a2::b1::b2::S):=fun a2 b2 a1 b1 S =>
   (qCe (l₁:=[a2,b2]) (a:=a1) (l₂:=b1::S)).trans (qDL _ (qDL _ (qDK ..)))
  simp_all
 refine zw (R:=Ro enc e size (.slice ao (xs.zip gs).length ca) (xs.zip gs)::Ro enc e size (.slice uo (ys.zip ks).length cu) (ys.zip ks)::InR rin (xs.zip gs) []::InR rin (ys.zip ks) []::RS) (k:=fun ps=>k (ps.map (·.1))) 0 henc hw ht hT hzs hd hs' hx' rfl (.inl ⟨1,_,rfl⟩) hlim hlb (fun ps hps a0 c0=>?_) hm a w hf hp3
 intro hm' a' w' hf' hp'
 have hps':app lim xs ys=some (ps.map (·.1))∧ps=xs.zip gs++ys.zip ks:=by
  unfold app at hps ⊢
  rw[qeZ hl1,qeZ hl2] at hps
  split at hps
  ·rename_i hb
   simp only[qBl] at hps
   rw[if_pos hb,← hps,qC1,qCT (by omega),qCT (by omega)]
   simp
  simp_all
 obtain ⟨h1,h2⟩:=hps'
 have h4:=h _ h1 a0 c0
 rw[qBD] at h4
 refine h4 hm' a' w' hf' ?_
 have hp4:Hp M0 w0 w' B (Ro enc e size (.slice a0 ps.length c0) ps::InR rin (xs.zip gs) []::InR rin (ys.zip ks) []::RS) F:=hp'.weaken (qBE _) ((List.sublist_cons_self _ _).cons_cons _) (fun _ h=>h)
 have hblk:((InR rin (xs.zip gs) []).blocks++(InR rin (ys.zip ks) []).blocks)=(InR rin ps []).blocks:=by
  grind [qiC,qcd]
 have hp5:Hp M0 w0 w' B (Ro enc e size (.slice a0 ps.length c0) ps::InR rin ps []::RS) F:=by
  refine hp4.rowsP (fun r hr=>?_) ?_
  ·rcases qBi.1 hr with rfl | hr
   ·exact hp4.rows _ (qBp ..)
   ·rcases qBi.1 hr with rfl | hr
    ·refine ⟨⟨rfl,.inl ⟨rfl,rfl⟩⟩,fun f hf=>?_⟩
     have hf':f∈(outs [] 0 ps).flatMap rin:=hf
     rw[qcd,h2,qCK] at hf'
     rcases qBg.1 hf' with hf' | hf'
     ·exact (hp4.rows (InR rin (xs.zip gs) []) (by simp)).2 f (by show f∈(outs [] 0 (xs.zip gs)).flatMap rin;rw[qcd];omega)
     ·exact (hp4.rows (InR rin (ys.zip ks) []) (by simp)).2 f (by show f∈(outs [] 0 (ys.zip ks)).flatMap rin;rw[qcd];omega)
    ·exact hp4.rows r (by grind)
  grind
 have h5:=hp5.reN (hs:=[]) List.nodup_nil
 grind [qDC]
def pkey (k0 k1:IntKind)(p:Int×Int):Value:=.agg #[.int k0 p.1,.int k1 p.2]
def ents (k0 k1:IntKind):Nat→List (Int×Int)→List MapEntry
 | _,[]=>[]
 | i,p::t=>{ key:=pkey k0 k1 p,val:=.agg #[],born:=i }::ents k0 k1 (i+1) t
def mapO (k0 k1:IntKind)(ks:List (Int×Int)):Obj:=.map (ents k0 k1 0 ks).toArray ks.length
theorem qmJ (k0 k1:IntKind)(p:Int×Int):∀ (i:Nat) (ks:List (Int×Int)),ents k0 k1 i (ks++[p])=ents k0 k1 i ks++[{ key:=pkey k0 k1 p,val:=.agg #[],born:=i+ks.length }]
 | i,[]=>rfl
 | i,x::t=>by
  show _::ents k0 k1 (i+1) (t++[p])=_::(ents k0 k1 (i+1) t++_)
  rw[qmJ k0 k1 p (i+1) t,List.length_cons,show i+1+t.length=i+(t.length+1) from by omega]
theorem qfS {r:Nat}{es:Array MapEntry}(h:w.heap[r]?=some (.map es c)):(getObj r).run P w=.ok (.map es c) w:=by
 simp[getObj,Sem.run,h]
theorem qko {r:Nat}{o:Obj}{es:Array MapEntry}(h:w.heap[r]?=some (.map es c)):(setObj r o).run P w=.ok () (w.putObj r o):=by
 simp[setObj,Sem.run,h,World.putObj]
variable {k0 k1:IntKind}
theorem qid (hE:StE2 P t k0 k1)(em:Bool)(p:Int×Int):(Instr.checkKey em 10000 t (pkey k0 k1 p)).run P w=.ok () w:=by
 obtain ⟨f0,f1,hs,hst,hg,n0,n1,o0,o1,u0,u1⟩:=hE.out
 have c0:∀ n,(Instr.checkKey em (n+1) f0.type (.int k0 p.1)).run P w=.ok () w:=fun n=>by simp[Instr.checkKey,run_underlying u0]
 have c1:∀ n,(Instr.checkKey em (n+1) f1.type (.int k1 p.2)).run P w=.ok () w:=fun n=>by simp[Instr.checkKey,run_underlying u1]
 have p0:(part f0.type #[.int k0 p.1,.int k1 p.2] 0).run P w=.ok (.int k0 p.1) w:=qbV u0 rfl
 have p1:(part f1.type #[.int k0 p.1,.int k1 p.2] 1).run P w=.ok (.int k1 p.2) w:=qbV u1 rfl
 have h0:=c0 9998
 have h1:=c1 9998
 simp only[show (9998+1:Nat)=9999 from rfl] at h0 h1
 unfold pkey
 rw[Instr.checkKey]
 generalize Instr.checkKey em 9999=ck at h0 h1
 simp[run_underlying hs,n0,n1,o0,o1,p0,p1,h0,h1]
theorem qkn (hE:StE2 P t k0 k1)(p:Int×Int):∀ (ks:List (Int×Int)) (i j:Nat),∃ r,(Instr.findAsking t (pkey k0 k1 p) (ents k0 k1 i ks) j).run P w=.ok r w∧((p∈ks∧∃ q,r=some (q,.agg #[]))∨(p∉ks∧r=none))
 | [],i,j=>⟨none,by rfl,.inr ⟨by simp,rfl⟩⟩
 | x::ks,i,j=>by
  obtain ⟨f0,f1,hs,hst,hg,n0,n1,o0,o1,u0,u1⟩:=hE.out
  have he:=qpp (w:=w) (a:=p.1) (b:=p.2) (c:=x.1) (d:=x.2) hs hst n0 n1 o0 o1 u0 u1
  obtain ⟨r,h1,h2⟩:=qkn hE p ks (i+1) (j+1)
  have he':(Op.equal t (pkey k0 k1 p) (pkey k0 k1 x)).run P w=.ok ((p.1 == x.1) && (p.2 == x.2)) w:=he
  by_cases hpx:p=x
  ·subst hpx
   refine ⟨some (j,.agg #[]),?_,.inl ⟨by simp,_,rfl⟩⟩
   simp only[ents,Instr.findAsking,Sem.run_bind,he',Result.andThen_ok]
   simp
  ·have hf:((p.1 == x.1) && (p.2 == x.2))=false:=by
    grind
   refine ⟨r,?_,?_⟩
   ·simp only[ents,Instr.findAsking,Sem.run_bind,he',Result.andThen_ok,hf,qBq,if_false]
    omega
   simp_all
theorem qjn (hE:StE2 P t k0 k1)(p:Int×Int)(ks:List (Int×Int)):∃ r,(Instr.findKey t (pkey k0 k1 p) (ents k0 k1 0 ks)).run P w=.ok r w∧((p∈ks∧∃ q,r=some (q,.agg #[]))∨(p∉ks∧r=none)):=by
 obtain ⟨f0,f1,hs,_⟩:=hE.out
 cases ks with
 | nil=>exact ⟨none,by simp[Instr.findKey,run_underlying hs,ents,Instr.findNow],.inr ⟨by simp,rfl⟩⟩
 | cons x ks =>
  obtain ⟨r,h1,h2⟩:=qkn (w:=w) hE p (x::ks) 0 0
  refine ⟨r,?_,h2⟩
  simp only[Instr.findKey,Sem.run_bind,run_underlying hs,Result.andThen_ok]
  grind [ents,Instr.findNow,Instr.sameNow]
variable {kt:TypeId}
theorem qqi (hw:wants ops l ⟨some d,.makeMap t' none,t,pos,af,gd⟩=some true)(hd:Nat.blt d n=true)(h:∀ g,SXO P ro n D M0 w0 Q ops rest ((d,.map (some g))::l) (blkO g (mapO k0 k1 [])::B) R F m r):SXO P ro n D M0 w0 Q ops (⟨some d,.makeMap t' none,t,pos,af,gd⟩::rest) l B R F m r :=
 k7 hw fun hm a w hf hp=>by
  refine ⟨.map (some w.heap.size),w.alloc (mapO k0 k1 []),?_,h _ hm _ _ (hf.put hd _) (hp.allocO _)⟩
  rfl
theorem qqh {g:Nat}{p:Int×Int}{ks:List (Int×Int)}(hw:wants ops l ⟨some d,.lookup t' x ix true,t,pos,af,gd⟩=some true)(ht:P.underlying t'=some (.map kt e))(hE:StE2 P kt k0 k1)(hT:TyF P e agg (.agg #[]) size bytes)(hx:ev l x=some (.map (some g)))(hi:ev l ix=some (.agg #[.int k0 p.1,.int k1 p.2]))(hB:B[i]?=some (blkO g (mapO k0 k1 ks)))(hd:Nat.blt d n=true)(h:SXO P ro n D M0 w0 Q ops rest ((d,.tuple #[.agg #[],.bool (decide (p∈ks))])::l) B R F m r):SXO P ro n D M0 w0 Q ops (⟨some d,.lookup t' x ix true,t,pos,af,gd⟩::rest) l B R F m r :=
 qO _ hw rfl hd (fun a w hf hp=>by
  have h1:=hf.ev hx
  have h2:=hf.ev hi
  have hb:w.heap[g]?=some (.map (ents k0 k1 0 ks).toArray ks.length):=hp.blk _ (qBe hB)
  have hg:=qfS (P:=P) hb
  have hc:=qid (w:=w) hE (ents k0 k1 0 ks).toArray.isEmpty p
  obtain ⟨q,hq,hr⟩:=qjn (w:=w) hE p ks
  have hz:=hT.run_zero w
  generalize a.eval=ε at h1 h2 ⊢
  have hi':(Value.agg #[.int k0 p.1,.int k1 p.2])=pkey k0 k1 p:=rfl
  rw[hi'] at h2
  generalize hck:Instr.checkKey (ents k0 k1 0 ks).toArray.isEmpty 10000 kt (pkey k0 k1 p)=ck at hc
  generalize hzz:zeroValue e=zz at hz
  simp only[execOp,h1,h2,Instr.lookup,Sem.run_bind,run_underlying ht,Result.andThen_ok,hg,Sem.run_pure,hck,hc,hq]
  rcases hr with ⟨m1,q',rfl⟩ | ⟨m1,rfl⟩
  ·simp[m1]
  ·simp[m1,hzz,hz]) h
def sins (ks:List (Int×Int))(p:Int×Int):Option (List (Int×Int)):=if p∈ks then none else some (ks++[p])
theorem qrC {y:Operand}{g:Nat}{p:Int×Int}{ks:List (Int×Int)}{k:List (Int×Int)→Option ρ}(hw:wants ops l ⟨none,.mapUpdate t' x ix y,t,pos,af,gd⟩=some true)(ht:P.underlying t'=some (.map kt e))(hE:StE2 P kt k0 k1)(hx:ev l x=some (.map (some g)))(hi:ev l ix=some (.agg #[.int k0 p.1,.int k1 p.2]))(hy:ev l y=some (.agg #[]))(hB:B[i]?=some (blkO g (mapO k0 k1 ks)))(h:∀ ys,sins ks p=some ys→SXO P ro n D M0 w0 Q ops rest l (B.set i (blkO g (mapO k0 k1 ys))) R F (k ys) r):SXO P ro n D M0 w0 Q ops (⟨none,.mapUpdate t' x ix y,t,pos,af,gd⟩::rest) l B R F ((sins ks p).bind k) r:=by
 intro hm a w hf hp
 cases hq:sins ks p with
 | none=>simp_all
 | some ys =>
  rw[hq] at hm
  have hm':k ys=some r:=by grind
  have hq0:=hq
  unfold sins at hq
  split at hq
  ·grind
  ·rename_i hn
   simp only[qBl] at hq
   have h1:=hf.ev hx
   have h2:=hf.ev hi
   have h3:=hf.ev hy
   have hb:w.heap[g]?=some (.map (ents k0 k1 0 ks).toArray ks.length):=hp.blk _ (qBe hB)
   have hg:=qfS (P:=P) hb
   have hc:=qid (w:=w) hE false p
   obtain ⟨q,hfk,hr⟩:=qjn (w:=w) hE p ks
   have hq':q=none:=by
    simp_all
   subst hq'
   have hset:=qko (P:=P) (o:=mapO k0 k1 ys) hb
   have hi':(Value.agg #[.int k0 p.1,.int k1 p.2])=pkey k0 k1 p:=rfl
   rw[hi'] at h2
   have hobj:Obj.map (ents k0 k1 0 ks++[({ key:=pkey k0 k1 p,val:=.agg #[],born:=ks.length }:MapEntry)]).toArray (ks.length+1)=mapO k0 k1 ys:=by
    rw[← hq]
    unfold mapO
    rw[qmJ,qBk,qB0]
    simp
   have hrun:(execOp a.eval ⟨none,.mapUpdate t' x ix y,t,pos,af,gd⟩).run P w=.ok .skip (w.putObj g (mapO k0 k1 ys)):=by
    generalize a.eval=ε at h1 h2 h3 ⊢
    generalize hck:Instr.checkKey false 10000 kt (pkey k0 k1 p)=ck at hc
    simp only[execOp,h1,h2,h3,Instr.mapUpdate,Sem.run_bind,run_underlying ht,Result.andThen_ok,hg,mapO,hck,hc,hfk]
    simp only[mapO] at hobj hset
    simp_all
   exact qeV (zo hf hw) (yV hw) hrun (h _ hq0 hm' _ _ hf (hp.setObj hB _))
theorem qkB (bs:ByteArray):bs.data.toList.length=bs.size:=by rw[Array.length_toList];rfl
theorem qrY (bs:ByteArray):∀ (k i:Nat) (r:List UInt8),i+k=bs.size→ByteArray.toList.loop bs i r=r.reverse++bs.data.toList.drop i
 | 0,i,r,h=>by
  rw[ByteArray.toList.loop.eq_1,if_neg (by omega),List.drop_eq_nil_of_le (by rw[qkB];omega),qBR]
 | k+1,i,r,h=>by
  rw[ByteArray.toList.loop.eq_1,if_pos (by omega),qrY bs k (i+1) _ (by omega)]
  have hi:i<bs.data.toList.length:=by rw[qkB];omega
  have hg:bs.get! i=bs.data.toList[i]:=by
   have hi2:i<bs.data.size:=by simpa using hi
   show bs.data[i]! = _
   rw[getElem!_pos bs.data i hi2,Array.getElem_toList]
  rw[List.drop_eq_getElem_cons hi,List.reverse_cons,qBn,hg]
  rfl
theorem qmy (bs:ByteArray):bs.toList=bs.data.toList:=by
 show ByteArray.toList.loop bs 0 []=_
 rw[qrY bs bs.size 0 [] (by omega)]
 simp
theorem qqI (a b:ByteArray):(a.toList == b.toList)=(a == b):=by
 rw[qmy,qmy]
 obtain ⟨x⟩:=a
 obtain ⟨y⟩:=b
 show (x.toList == y.toList)=(x == y)
 by_cases h:x=y
 ·subst h;simp
 ·rw[beq_eq_false_iff_ne.2 h,beq_eq_false_iff_ne.2 (fun e=>h (Array.toList_inj.1 e))]
theorem qkE (k:IntKind):∀ xs:List Int,xs.flatMap (eI k)=xs.map (Value.int k)
 | []=>rfl
 | x::t=>by rw[qBz,qkE k t];rfl
def bstr (xs:List Int):ByteArray:=xs.foldl (fun r n=>r.push (UInt8.ofNat n.toNat)) ByteArray.empty
theorem quc {s t1 e1:TypeId}{xs:List Int}(hw:wants ops l ⟨some d,.convert s t1 x,t,pos,af,gd⟩=some true)(hs:P.underlying s=some (.slice e1))(he:P.underlying e1=some (.int .u8))(ht:P.underlying t1=some .string)(hx:ev l x=some v)(hF:F[j]?=some (Sl (eI .u8) 1 v xs))(hd:Nat.blt d n=true)(h:SXO P ro n D M0 w0 Q ops rest ((d,.string (bstr xs))::l) B R F m r):SXO P ro n D M0 w0 Q ops (⟨some d,.convert s t1 x,t,pos,af,gd⟩::rest) l B R F m r :=
 qO _ hw rfl hd (fun a w hf hp=>by
  have h1:=hf.ev hx
  have hc:Cells v xs.length 1 (xs.flatMap (eI .u8)) w:=(hp.per _ (qBe hF)).here
  have hfl:xs.flatMap (eI .u8)=xs.map (Value.int .u8):=qkE _ _
  have hfc:=jK (P:=P) hc
  obtain ⟨⟨ao,cap,rfl,_,_,hsp,hcc⟩,hl⟩:=hc
  generalize a.eval=ε at h1 ⊢
  have hr:=run_convert_bytes_string w s t1 e1 ao xs.length cap hs he ht
  cases ao with
  | none =>
   have:xs=[]:=by
    cases xs with
    | nil=>rfl
    | cons y ys=>obtain ⟨ad,h0,_⟩:=hcc 0 _ rfl;simp at h0
   subst this
   simp only[execOp,h1,Sem.run_bind,hr,Conv.bytesToString]
   rfl
  | some ad =>
   have hld:(loadCells ad xs.length).run P w=.ok (xs.map (Value.int .u8)).toArray w:=by
    rw[← hfl]
    simpa[Builtin.firstCells] using hfc
   have hb:=run_bytesToString (P:=P) w ad xs.length cap xs hld
   simp only[execOp,h1,Sem.run_bind,hr,hb]
   rfl) h
theorem qwZ {y:Operand}{a b:ByteArray}(hw:wants ops l ⟨some d,.binOp .neq xt x y yt,t,pos,af,gd⟩=some true)(_hu:P.underlying xt=some .string)(hx:ev l x=some (.string a))(hy:ev l y=some (.string b))(hd:Nat.blt d n=true)(h:SXO P ro n D M0 w0 Q ops rest ((d,.bool (!(a == b)))::l) B R F m r):SXO P ro n D M0 w0 Q ops (⟨some d,.binOp .neq xt x y yt,t,pos,af,gd⟩::rest) l B R F m r :=
 qO _ hw rfl hd (fun ac w hf _=>by
  have h1:=hf.ev hx
  have h2:=hf.ev hy
  generalize ac.eval=ε at h1 h2 ⊢
  simp[execOp,h1,h2,eqGuard,binOp,Op.stringOp,go_sem,← qqI]) h
theorem qwT {y:Operand}{a b:ByteArray}(hw:wants ops l ⟨some d,.binOp .eql xt x y yt,t,pos,af,gd⟩=some true)(_hu:P.underlying xt=some .string)(hx:ev l x=some (.string a))(hy:ev l y=some (.string b))(hd:Nat.blt d n=true)(h:SXO P ro n D M0 w0 Q ops rest ((d,.bool (a == b))::l) B R F m r):SXO P ro n D M0 w0 Q ops (⟨some d,.binOp .eql xt x y yt,t,pos,af,gd⟩::rest) l B R F m r :=
 qO _ hw rfl hd (fun ac w hf _=>by
  have h1:=hf.ev hx
  have h2:=hf.ev hy
  generalize ac.eval=ε at h1 h2 ⊢
  simp[execOp,h1,h2,eqGuard,binOp,Op.stringOp,go_sem,← qqI]) h
theorem qmu {xs:Array Operand}{vs:List Value}(hw:wants ops l ⟨some d,.makeFunc (.func f) xs #[],t,pos,af,gd⟩=some true)(hx:evArgs l xs.toList=some vs)(hd:Nat.blt d n=true)(h:SXO P ro n D M0 w0 Q ops rest ((d,.func (.func f) vs.toArray #[])::l) B R F m r):SXO P ro n D M0 w0 Q ops (⟨some d,.makeFunc (.func f) xs #[],t,pos,af,gd⟩::rest) l B R F m r :=
 qO _ hw rfl hd (fun a w hf _=>by
  have h2:=hf.evArgs hx
  have h3:xs.map a.eval=vs.toArray:=by rw[← h2,← Array.toList_map,Array.toArray_toList]
  generalize a.eval=ε at h3 ⊢
  simp[execOp,Instr.makeFunc,h3]) h
theorem qtW {a:Act}{x0:Operand}{xs:Array Operand}{tys:Array TypeId}{vs bs:List Value}{dst:Option Tmp}(hf:Fr n D a l)(he:Enters P f)(h0:ev l x0=some (.func (.func f) bs.toArray #[]))(hx:evArgs l xs.toList=some vs) :
  (execOp a.eval ⟨dst,.call ⟨.value x0,xs,tys⟩,t,pos,af,gd⟩).run P w=.ok (.enter f (bs++vs).toArray) w:=by
 have h1:=hf.ev h0
 have h2:=hf.evArgs hx
 have h3:xs.map a.eval=vs.toArray:=by rw[← h2,← Array.toList_map,Array.toArray_toList]
 have h4:=he (bs++vs).toArray w
 have h5:(bs++vs).toArray=bs.toArray++vs.toArray:=by simp
 generalize a.eval=ε at h1 h3 ⊢
 rw[h5] at h4 ⊢
 simp only[List.append_toArray] at h4
 simp[execOp,resolve,h1,h3,Deferred.ofValue,invoke,h4]
theorem jM {mg:Option α}{k:α→Option ρ}{x0:Operand}{xs:Array Operand}{tys:Array TypeId}{vs bs:List Value}{V:α→γ→Value}{B0 BS:List BlkD}{R0 RS:List RowD}{B1:α→γ→List BlkD}{R1:α→γ→List RowD}(he:Enters P f)(h0:ev l x0=some (.func (.func f) bs.toArray #[]))(hw:wants ops l ⟨some d,.call ⟨.value x0,xs,tys⟩,t,pos,af,gd⟩=some true)(hx:evArgs l xs.toList=some vs)(hd:Nat.blt d n=true)(hC:∀ y,mg=some y→PureM P f (bs++vs) B0 R0 Φ γ (V y) (B1 y) (R1 y))(hB:Takes B B0 BS)(hR:Takes R R0 RS)(ha:ArgsM RS F Φ)(h:∀ y,mg=some y→∀ g,SXO P ro n D M0 w0 Q ops rest ((d,V y g)::l) (B1 y g++BS) (R1 y g++RS) F (k y) r) :
  SXO P ro n D M0 w0 Q ops (⟨some d,.call ⟨.value x0,xs,tys⟩,t,pos,af,gd⟩::rest) l B R F (mg.bind k) r:=by
 intro hm a w hf hp
 cases hq:mg with
 | none=>rw[hq] at hm;simp at hm
 | some y =>
  rw[hq] at hm
  have hm':k y=some r:=by simpa using hm
  have hp':=hp.perm hB.perm hR.perm
  refine qdi (zo hf hw) (yV hw) (qtW hf he h0 hx) ((hC y hq w (hp'.startM (ha.ok hp'))).mono fun e w' ⟨g,h1,h2⟩=>⟨V y g,h1,?_⟩)
  exact h y hq g hm' _ _ (hf.put hd _) (hp'.callM h2)
def entF (k:IntKind):Nat→List (Int×Value)→List MapEntry
 | _,[]=>[]
 | i,p::t=>{ key:=.int k p.1,val:=p.2,born:=i }::entF k (i+1) t
def mapF (k:IntKind)(es:List (Int×Value)):Obj:=.map (entF k 0 es).toArray es.length
def lookF (x:Int):List (Int×Value)→Option Value
 | []=>none
 | p::t=>if x=p.1 then some p.2 else lookF x t
end SX
