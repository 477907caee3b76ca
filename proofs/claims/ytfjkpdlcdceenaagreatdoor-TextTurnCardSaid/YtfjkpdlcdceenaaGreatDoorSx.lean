/- A layer of rules for walking Go code: what a frame's slots hold, what blocks and rows of the heap hold; each rule speaks of a plain model's value: part 2. -/
import Derived.Test.YtfjkpdlcdceenaaGreatDoorSw
import Derived.RangeFuncLeaves
import Derived.RangeFuncRecord
import Derived.RangeFuncSeq
import Derived.OrdersIn
import Derived.ProofKit
import Derived.Laws.StructEq
import Derived.Laws.BytesString
import Derived.Lib.AppendStr
import Derived.Lib.Split
import Derived.Lib.SlTrimSet
import Derived.Lib.Atoi
import Derived.Lib.ItoaNum
namespace SX
open Go
def PureM (P : Program) (f : FuncId) (vs : List Value) (B0 : List BlkD) (R0 : List RowD) (Φ : List (World → Prop)) (γ : Type) (V : γ → Value) (B1 : γ → List BlkD) (R1 : γ → List RowD) : Prop :=
  ∀ w, Hp (muts B0 R0) w w B0 R0 Φ → Calls P f vs.toArray w fun e w' => ∃ g : γ, e = .returned (V g) ∧ Hp (muts B0 R0) w w' (B1 g) (R1 g) []
theorem jQ {B1 B2 : List BlkD} {R1 R2 : List RowD} : (muts (B1 ++ B2) (R1 ++ R2)).Perm (muts B1 R1 ++ muts B2 R2) := by
  unfold muts
  simp only [List.map_append, List.flatMap_append]
  rw [List.append_assoc, List.append_assoc]
  refine List.Perm.append_left _ ?_
  rw [← List.append_assoc, ← List.append_assoc]
  exact List.Perm.append_right _ List.perm_append_comm
inductive Takes {α : Type} : List α → List α → List α → Prop
  | nil {R : List α} : Takes R [] R
  | cons {R R' S : List α} {r : α} (i : Nat) (h : R[i]? = some r) (hp : Takes (R.eraseIdx i) R' S) : Takes R (r :: R') S
theorem Takes.perm {α : Type} {R R' S : List α} (h : Takes R R' S) : R.Perm (R' ++ S) := by
  induction h with
  | nil => exact List.Perm.refl _
  | cons i h _ ih =>
    obtain ⟨R1, R2, rfl, he⟩ := jS h
    rw [he] at ih
    exact List.perm_middle.trans (List.Perm.cons _ ih)
theorem Hp.perm {M0 : List Nat} {w0 w : World} {B B' : List BlkD} {R R' : List RowD} {F : List (World → Prop)} (h : Hp M0 w0 w B R F) (hB : B.Perm B') (hR : R.Perm R') : Hp M0 w0 w B' R' F := by
  have hp : (muts B R).Perm (muts B' R') := (hB.map _).append (hR.flatMap_right _)
  exact { keep := h.keep, blk := fun b hb => h.blk b (hB.mem_iff.2 hb), rows := fun r hr => h.rows r (hR.mem_iff.2 hr), nodup := hp.nodup_iff.1 h.nodup,
          fresh := fun g hg => h.fresh g (hp.mem_iff.2 hg), per := fun φ hφ => (h.per φ hφ).less fun k hk => hp.mem_iff.2 hk }
theorem Hp.callM {M0 : List Nat} {w0 w w' : World} {B0 BS B1 : List BlkD} {R0 RS R1 : List RowD} {F : List (World → Prop)} (h : Hp M0 w0 w (B0 ++ BS) (R0 ++ RS) F) (hr : Hp (muts B0 R0) w w' B1 R1 []) : Hp M0 w0 w' (B1 ++ BS) (R1 ++ RS) F := by
  have hm := jQ (B1 := B0) (B2 := BS) (R1 := R0) (R2 := RS)
  have hm1 := jQ (B1 := B1) (B2 := BS) (R1 := R1) (R2 := RS)
  have hnd := hm.nodup_iff.1 h.nodup
  have hdis : ∀ k ∈ muts BS RS, k ∉ muts B0 R0 := fun k hk hk' => (List.nodup_append.1 hnd).2.2 k hk' k hk rfl
  refine h.turn (muts B0 R0) hr.keep (fun k hk => hm.mem_iff.2 (List.mem_append.2 (.inl hk))) (fun b hb => ?_) (fun r0 h0 => ?_) ?_ ?_
  · rcases List.mem_append.1 hb with hb | hb
    · exact hr.blk b hb
    · exact k9 (h.blk b (List.mem_append.2 (.inr hb))) hr.keep (hdis _ (List.mem_append.2 (.inl (List.mem_map.2 ⟨b, hb, rfl⟩))))
  · rcases List.mem_append.1 h0 with h0 | h0
    · exact hr.rows r0 h0
    · exact ku (h.rows r0 (List.mem_append.2 (.inr h0))) hr.keep fun g hg => hdis _ (List.mem_append.2 (.inr (List.mem_flatMap.2 ⟨r0, h0, hg⟩)))
  · refine hm1.nodup_iff.2 (List.nodup_append.2 ⟨hr.nodup, (List.nodup_append.1 hnd).2.1, fun a ha b hb hab => ?_⟩)
    subst hab
    rcases hr.fresh a ha with h1 | h1
    · exact hdis a hb h1
    · have := h.lt a (hm.mem_iff.2 (List.mem_append.2 (.inr hb))); omega
  · intro g hg
    rcases List.mem_append.1 (hm1.mem_iff.1 hg) with h2 | h2
    · rcases hr.fresh g h2 with h3 | h3
      · exact .inl (hm.mem_iff.2 (List.mem_append.2 (.inl h3)))
      · exact .inr h3
    · exact .inl (hm.mem_iff.2 (List.mem_append.2 (.inr h2)))
inductive ArgsM (R : List RowD) (F : List (World → Prop)) : List (World → Prop) → Prop
  | nil : ArgsM R F []
  | consF {φ : World → Prop} {Φ : List (World → Prop)} (j : Nat) (h : F[j]? = some φ) (ha : ArgsM R F Φ) : ArgsM R F (φ :: Φ)
  | consR {Φ : List (World → Prop)} (j : Nat) (rd : RowD) (h : R[j]? = some rd) (ha : ArgsM R F Φ) : ArgsM R F (Cells rd.v rd.n rd.size rd.cs :: Φ)
  | consG {φ : World → Prop} {Φ : List (World → Prop)} (j : Nat) {rd : RowD} (h : R[j]? = some rd) (hφ : ∀ w, rd.owns w → φ w) (ha : ArgsM R F Φ) : ArgsM R F (φ :: Φ)
theorem ArgsM.ok {M0 : List Nat} {w0 w : World} {B0 BS : List BlkD} {R0 RS : List RowD} {F Φ : List (World → Prop)} (ha : ArgsM RS F Φ) (hp : Hp M0 w0 w (B0 ++ BS) (R0 ++ RS) F) : ∀ φ ∈ Φ, Nec w (muts B0 R0) φ := by
  have hm := jQ (B1 := B0) (B2 := BS) (R1 := R0) (R2 := RS)
  have hnd := hm.nodup_iff.1 hp.nodup
  induction ha with
  | nil => intro φ h; simp at h
  | consF j h _ ih =>
    intro φ hφ
    rcases List.mem_cons.1 hφ with rfl | hφ
    · exact (hp.per _ (List.mem_of_getElem? h)).less fun k hk => hm.mem_iff.2 (List.mem_append.2 (.inl hk))
    · exact ih φ hφ
  | consR j rd h _ ih =>
    intro φ hφ
    rcases List.mem_cons.1 hφ with rfl | hφ
    · intro w' hk
      have hrd := List.mem_of_getElem? h
      refine Cells.keeps (zq (hp.row _ (List.mem_append.2 (.inr hrd)))) hk fun g hg hgm => ?_
      exact (List.nodup_append.1 hnd).2.2 g hgm g (List.mem_append.2 (.inr (List.mem_flatMap.2 ⟨rd, hrd, RowD.blocks_v hg⟩))) rfl
    · exact ih φ hφ
  | @consG _ _ j rd h hg _ ih =>
    intro φ hφ
    rcases List.mem_cons.1 hφ with rfl | hφ
    · intro w' hk
      have hrd := List.mem_of_getElem? h
      refine hg w' (ku (hp.rows _ (List.mem_append.2 (.inr hrd))) hk fun g hg' hgm => ?_)
      exact (List.nodup_append.1 hnd).2.2 g hgm g (List.mem_append.2 (.inr (List.mem_flatMap.2 ⟨rd, hrd, hg'⟩))) rfl
    · exact ih φ hφ
theorem Hp.startM {M0 : List Nat} {w0 w : World} {B0 BS : List BlkD} {R0 RS : List RowD} {F Φ : List (World → Prop)} (hp : Hp M0 w0 w (B0 ++ BS) (R0 ++ RS) F) (h : ∀ φ ∈ Φ, Nec w (muts B0 R0) φ) : Hp (muts B0 R0) w w B0 R0 Φ where
  keep := Keeps.refl _ _
  blk := fun b hb => hp.blk b (List.mem_append.2 (.inl hb))
  rows := fun r hr => hp.rows r (List.mem_append.2 (.inl hr))
  nodup := (List.nodup_append.1 (jQ.nodup_iff.1 hp.nodup)).1
  fresh := fun _ hg => .inl hg
  per := h
section
variable {P : Program} {ro : Option Nat} {n : Nat} {D : List Deferred} {M0 : List Nat} {w0 : World} {Q : Exit → Act → World → Prop} {ρ : Type}
variable {ops : Array Oper} {rest : List Oper} {l : Env} {B : List BlkD} {R : List RowD} {F : List (World → Prop)} {m : Option ρ} {r : ρ}
variable {t : TypeId} {pos : String} {af : Array Edge} {gd : Option (Nat × Bool)}
theorem jb {α γ : Type} {mg : Option α} {k : α → Option ρ} {f : FuncId} {xs : Array Operand} {tys : Array TypeId} {vs : List Value} {Φ : List (World → Prop)} {d : Nat} {V : α → γ → Value} {B0 BS : List BlkD} {R0 RS : List RowD} {B1 : α → γ → List BlkD} {R1 : α → γ → List RowD}
    (he : Enters P f) (hw : wants ops l ⟨some d, .call ⟨.value (.func f), xs, tys⟩, t, pos, af, gd⟩ = some true) (hx : evArgs l xs.toList = some vs) (hd : Nat.blt d n = true)
    (hC : ∀ y, mg = some y → PureM P f vs B0 R0 Φ γ (V y) (B1 y) (R1 y)) (hB : Takes B B0 BS) (hR : Takes R R0 RS) (ha : ArgsM RS F Φ)
    (h : ∀ y, mg = some y → ∀ g, SXO P ro n D M0 w0 Q ops rest ((d, V y g) :: l) (B1 y g ++ BS) (R1 y g ++ RS) F (k y) r) :
    SXO P ro n D M0 w0 Q ops (⟨some d, .call ⟨.value (.func f), xs, tys⟩, t, pos, af, gd⟩ :: rest) l B R F (mg.bind k) r := by
  intro hm a w hf hp
  cases hq : mg with
  | none => rw [hq] at hm; simp at hm
  | some y =>
    rw [hq] at hm
    have hm' : k y = some r := by simpa using hm
    have hp' := hp.perm hB.perm hR.perm
    refine qa4 (zo hf hw) (kN hw) (qef hf he hx) ((hC y hq w (hp'.startM (ha.ok hp'))).mono fun e w' ⟨g, h1, h2⟩ => ⟨V y g, h1, ?_⟩)
    exact h y hq g hm' _ _ (hf.put hd _) (hp'.callM h2)
theorem yb {f : FuncId} {fn : Func} {c : Code} {vs : List Value} {B0 : List BlkD} {R0 : List RowD} {Φ : List (World → Prop)} {γ : Type} {V : γ → Value} {B1 : γ → List BlkD} {R1 : γ → List RowD} {N : Nat} (hfn : P.funcs[f]? = some fn) (hb : fn.body = some c) (hn : fn.ntmps = N)
    (hvl : Nat.ble vs.length N = true) (hm : m = some r)
    (h : ∀ w, SXC P none N [] (muts B0 R0) w (bodyPost P fn fun e w' => ∃ g : γ, e = .returned (V g) ∧ Hp (muts B0 R0) w w' (B1 g) (R1 g) []) c (vs.zipIdx.map fun p => (p.2, p.1)) B0 R0 Φ m r) : PureM P f vs B0 R0 Φ γ V B1 R1 := by
  intro w hp
  refine calls_of_wp hfn hb (qd2.1 (h w hm _ w ?_ hp))
  have hvl' : vs.length ≤ N := by simpa using hvl
  refine ⟨rfl, by simp [hn]; omega, fun i v hv => ?_⟩
  have key : ∀ (vs : List Value) (k i : Nat) (v : Value), look ((vs.zipIdx k).map fun p => (p.2, p.1)) i = some v → k ≤ i ∧ vs[i - k]? = some v := by
    intro vs
    induction vs with
    | nil => intro k i v hv; simp [look] at hv
    | cons u vs ih =>
      intro k i v hv
      simp only [List.zipIdx_cons, List.map_cons] at hv
      rw [vo] at hv
      split at hv
      · rename_i he; subst he; simpa using hv
      · obtain ⟨h1, h2⟩ := ih (k + 1) i v hv
        refine ⟨by omega, ?_⟩
        rw [show i - k = (i - (k + 1)) + 1 from by omega]
        simpa using h2
  obtain ⟨_, h2⟩ := key vs 0 i v hv
  have hlt := (List.getElem?_eq_some_iff.1 h2).1
  rw [Array.getElem?_append_left (by simpa using hlt)]
  simpa using h2
theorem qc0 {fn : Func} {γ : Type} {V : γ → Value} {B1 : γ → List BlkD} {R1 : γ → List RowD} {w : World} {x : ρ} {e : Exit} (g : γ) {v : Value} (hres : ∀ a w', Fr n [] a l → Hp M0 w w' B R F → (results fn a.tmps).run P w' = .ok v w')
    (hB : x = r → Pick B (B1 g) := by intro h; subst h; exact .nil) (hR : x = r → Pick R (R1 g) := by intro h; subst h; exact .nil) (hv : x = r → v = V g := by intro h; subst h; rfl) (he : e = .ret ∨ e = .normal := by first | exact .inl rfl | exact .inr rfl) :
    SXQ n [] M0 w (bodyPost P fn fun e w' => ∃ g : γ, e = .returned (V g) ∧ Hp M0 w w' (B1 g) (R1 g) []) e l B R F (some x) r := by
  intro hm a w' hf hp
  have hx : x = r := by simpa using hm
  have : ∃ v, (results fn a.tmps).run P w' = .ok v w' ∧ ∃ g : γ, Ending.returned v = .returned (V g) ∧ Hp M0 w w' (B1 g) (R1 g) [] :=
    ⟨v, hres a w' hf hp, g, by rw [hv hx], hp.pick (hB hx) (hR hx) (by simp)⟩
  rcases he with rfl | rfl
  · exact ⟨hf.defers, this⟩
  · exact ⟨hf.defers, this⟩
inductive ResOk (P : Program) (l : Env) (B : List BlkD) : List ResultVar → List Value → Prop
  | nil : ResOk P l B [] []
  | tmp {t : Tmp} {v : Value} {rs : List ResultVar} {vs : List Value} (h : look l t = some v) (hr : ResOk P l B rs vs) : ResOk P l B (.tmp t :: rs) (v :: vs)
  | cell {t : Tmp} {ty e : TypeId} {agg : Bool} {z : Value} {size bytes i g o : Nat} {cs : List Value} {V : Value} {rs : List ResultVar} {vs : List Value} (hx : look l t = some (.pointer (some ⟨g, o, none⟩))) (hT : TyF P ty agg z size bytes)
      (hB : B[i]? = some ⟨g, e, cs⟩) (hl : ((cs.drop o).take size).length = size) (hs : agg = false → size = 1) (hV : (if agg then .agg ((cs.drop o).take size).toArray else ((cs.drop o).take size).getD 0 undef) = V)
      (hr : ResOk P l B rs vs) : ResOk P l B (.cell t ty :: rs) (V :: vs)
theorem qft {rs : List ResultVar} {vs : List Value} (h : ResOk P l B rs vs) {a : Act} {w : World} (hf : Fr n D a l) (hb : ∀ b ∈ B, b.is w) :
    (rs.mapM (fun | .tmp t => pure (a.tmps.getD t undef) | .cell x t => do loadVar t (← asAddr (a.tmps.getD x undef))) : Sem (List Value)).run P w = .ok vs w := by
  induction h with
  | nil => rfl
  | @tmp t v rs vs h _ ih =>
    have e1 := hf.val _ _ h
    simp only [List.mapM_cons]
    generalize (rs.mapM (fun | .tmp t => pure (a.tmps.getD t undef) | .cell x t => do loadVar t (← asAddr (a.tmps.getD x undef))) : Sem (List Value)) = q at ih
    simp [Array.getD_eq_getD_getElem?, e1, ih]
  | @cell t ty e agg z size bytes i g o cs V rs vs hx hT hB hl hs hV _ ih =>
    have e1 := hf.val _ _ hx
    have hb1 := hb _ (List.mem_of_getElem? hB)
    have hc : qk g o ((cs.drop o).take size) w := by
      intro j u hj
      have hlt : j < size := by have := (List.getElem?_eq_some_iff.1 hj).1; simp at this; omega
      rw [List.getElem?_take_of_lt hlt, List.getElem?_drop] at hj
      have hb' : w.heap[g]? = some (.cells cs.toArray e (0, 0)) := hb1
      simp [World.cell?, hb', hj]
    have hr := kH hT hc hl hV.symm hs
    simp only [List.mapM_cons]
    generalize (rs.mapM (fun | .tmp t => pure (a.tmps.getD t undef) | .cell x t => do loadVar t (← asAddr (a.tmps.getD x undef))) : Sem (List Value)) = q at ih
    simp [Array.getD_eq_getD_getElem?, e1, asAddr, hr, ih]
theorem resL {fn : Func} {rs : List ResultVar} {vs : List Value} (hfn : fn.results = rs.toArray) (h : ResOk P l B rs vs) {w : World} {v : Value} (hv : (match vs with | [v] => v | _ => .tuple vs.toArray) = v) : ∀ a w', Fr n [] a l → Hp M0 w w' B R F → (results fn a.tmps).run P w' = .ok v w' := by
  intro a w' hf hp
  have hr := qft h hf hp.blk
  have key : results fn a.tmps = (do
      let vs ← (List.toArray <$> (rs.mapM (fun | .tmp t => pure (a.tmps.getD t undef) | .cell x t => do loadVar t (← asAddr (a.tmps.getD x undef))) : Sem (List Value)) : Sem (Array Value))
      pure (if h : vs.size = 1 then vs[0] else .tuple vs)) := by
    unfold results
    rw [hfn, Array.mapM_eq_mapM_toList]
    rfl
  rw [key]
  subst hv
  generalize (rs.mapM (fun | .tmp t => pure (a.tmps.getD t undef) | .cell x t => do loadVar t (← asAddr (a.tmps.getD x undef))) : Sem (List Value)) = q at hr
  simp only [map_eq_pure_bind, bind_assoc, pure_bind]
  simp [hr]
  match vs with
  | [] => rfl
  | [v] => rfl
  | v :: u :: r => simp
end
end SX
namespace SX
open Go
section heap
variable {M0 : List Nat} {w0 w : World} {B : List BlkD} {R : List RowD} {F : List (World → Prop)}
theorem Keeps.putObj {w : World} (g : Nat) (o : Obj) : Keeps [g] w (w.putObj g o) :=
  ⟨rfl, rfl, rfl, by simp [World.putObj], fun k _ hn => World.putObj_heap_other (by intro e; exact hn (by simp [e])), Nat.le_refl _⟩
theorem Hp.setObj {i : Nat} {b : BlkD} (h : Hp M0 w0 w B R F) (hi : B[i]? = some b) (o : Obj) : Hp M0 w0 (w.putObj b.g o) (B.set i (blkO b.g o)) R F := by
  have hm : b ∈ B := List.mem_of_getElem? hi
  have hgm : b.g ∈ muts B R := List.mem_append.2 (.inl (List.mem_map.2 ⟨_, hm, rfl⟩))
  have hlt := h.lt _ hgm
  have hk := Keeps.putObj (w := w) b.g o
  have hmu := qa8 (R := R) (b' := blkO b.g o) hi rfl
  refine h.turn [b.g] hk (by simpa using hgm) (fun b' hb => ?_) (fun r hr => ku (h.rows r hr) hk fun g' hg' => ?_) (hmu ▸ h.nodup) (fun k hk => .inl (hmu ▸ hk))
  · obtain ⟨j, hj⟩ := List.getElem?_of_mem hb
    rw [List.getElem?_set] at hj
    split at hj
    · split at hj
      · simp at hj; subst hj
        exact World.putObj_heap_same hlt
      · simp at hj
    · rename_i hij
      refine k9 (h.blk b' (List.mem_of_getElem? hj)) hk (fun hg => ?_)
      simp only [List.mem_singleton] at hg
      exact hij (qcT h.nodup hi hj hg.symm)
  · intro hgg
    simp only [List.mem_singleton] at hgg
    have hnd := (List.nodup_append.1 h.nodup).2.2
    exact hnd b.g (List.mem_map.2 ⟨_, hm, rfl⟩) g' (List.mem_flatMap.2 ⟨r, hr, hg'⟩) hgg.symm
theorem Hp.allocO (h : Hp M0 w0 w B R F) (o : Obj) : Hp M0 w0 (w.alloc o) (blkO w.heap.size o :: B) R F := by
  have hk := Keeps.alloc [] w o
  refine h.turn [] hk (by simp) (fun b hb => ?_) (fun r hr => ku (h.rows r hr) hk (by simp)) ?_ ?_
  · rcases List.mem_cons.1 hb with rfl | hb
    · exact heap_alloc_new w _
    · exact k9 (h.blk b hb) hk (by simp)
  · simp only [muts, List.map_cons, List.cons_append, List.nodup_cons]
    exact ⟨fun hm => by have := h.lt _ hm; omega, h.nodup⟩
  · intro g hg
    simp only [muts, List.map_cons, List.cons_append, List.mem_cons] at hg
    rcases hg with rfl | hg
    · exact .inr (Nat.le_refl _)
    · exact .inl hg
theorem Hp.facts {F' : List (World → Prop)} (h : Hp M0 w0 w B R F) (hF : ∀ φ ∈ F', Nec w (muts B R) φ) : Hp M0 w0 w B R F' :=
  { keep := h.keep, blk := h.blk, rows := h.rows, nodup := h.nodup, fresh := h.fresh, per := hF }
end heap
def mark (k : Nat) : Deferred := { target := .collected k, args := #[] }
abbrev dblk (k : Nat) : BlkD := blkO k (.deferred (some []))
section
variable {P : Program} {ro : Option Nat} {n : Nat} {D : List Deferred} {M0 : List Nat} {w0 : World} {Q : Exit → Act → World → Prop} {ρ : Type}
variable {ops : Array Oper} {rest : List Oper} {l : Env} {B : List BlkD} {R : List RowD} {F : List (World → Prop)} {m : Option ρ} {r : ρ}
variable {t : TypeId} {pos : String} {af : Array Edge} {gd : Option (Nat × Bool)}
theorem qdy {fn : Func} {tmps : Array Value} {Rp : Ending → World → Prop} {v : Value} : ∀ (Ds : List Nat) (w : World) (B : List BlkD), Hp M0 w0 w (Ds.map dblk ++ B) R F →
    (∀ w', Hp M0 w0 w' B R F → (results fn tmps).run P w' = .ok v w' ∧ Rp (.returned v) w') → LeavesInM (Wd none) 0 P fn tmps Rp (Ds.map mark) .returning w := by
  intro Ds
  induction Ds with
  | nil => intro w B hp h; obtain ⟨h1, h2⟩ := h w hp; exact ⟨v, h1, h2⟩
  | cons k Ds ih =>
    intro w B hp h
    have hb : w.heap[k]? = some (.deferred (some [])) := hp.blk (dblk k) (by simp)
    refine ⟨by simp, .inl ⟨k, _, rfl, run_takeDeferred hb, ih _ B ?_ h⟩⟩
    exact (hp.setObj (i := 0) (b := dblk k) rfl (.deferred none)).weaken (by simp) (List.Sublist.refl _) (fun φ h => h)
theorem vr {fn : Func} {γ : Type} {V : γ → Value} {B1 : γ → List BlkD} {R1 : γ → List RowD} {w : World} {x : ρ} {e : Exit} (Ds : List Nat) {B' : List BlkD} (g : γ) {v : Value} (he : e = .ret ∨ e = .normal) (hD : D = Ds.map mark) (hT : Takes B (Ds.map dblk) B')
    (hres : ∀ a w', Fr n [] a l → Hp M0 w w' B' R F → (results fn a.tmps).run P w' = .ok v w')
    (hv : x = r → v = V g) (hB : x = r → Pick B' (B1 g)) (hR : x = r → Pick R (R1 g)) :
    SXQ n D M0 w (bodyPostM (Wd none) 0 P fn fun e w' => ∃ g : γ, e = .returned (V g) ∧ Hp M0 w w' (B1 g) (R1 g) []) e l B R F (some x) r := by
  intro hm a w' hf hp
  have hx : x = r := by simpa using hm
  have : LeavesInM (Wd none) 0 P fn a.tmps (fun e w' => ∃ g : γ, e = .returned (V g) ∧ Hp M0 w w' (B1 g) (R1 g) []) a.defers .returning w' := by
    rw [hf.defers, hD]
    refine qdy (v := v) (R := R) (F := F) Ds w' B' (hp.perm hT.perm (List.Perm.refl _)) fun w2 hp2 => ⟨?_, g, by rw [hv hx], hp2.pick (hB hx) (hR hx) (by simp)⟩
    exact hres { tmps := a.tmps, defers := [] } w2 ⟨rfl, hf.size, hf.val⟩ hp2
  rcases he with rfl | rfl
  · exact this
  · exact this
theorem qg5 {fn : Func} {vs : List Value} {N : Nat} (hn : fn.ntmps = N) (hvl : Nat.ble vs.length N = true) : Fr N [] { tmps := vs.toArray ++ Array.replicate (fn.ntmps - vs.toArray.size) undef, defers := [] } (vs.zipIdx.map fun p => (p.2, p.1)) := by
  have hvl' : vs.length ≤ N := by simpa using hvl
  refine ⟨rfl, by simp [hn]; omega, fun i v hv => ?_⟩
  have key : ∀ (vs : List Value) (k i : Nat) (v : Value), look ((vs.zipIdx k).map fun p => (p.2, p.1)) i = some v → k ≤ i ∧ vs[i - k]? = some v := by
    intro vs
    induction vs with
    | nil => intro k i v hv; simp [look] at hv
    | cons u vs ih =>
      intro k i v hv
      simp only [List.zipIdx_cons, List.map_cons] at hv
      rw [vo] at hv
      split at hv
      · rename_i he; subst he; simpa using hv
      · obtain ⟨h1, h2⟩ := ih (k + 1) i v hv
        refine ⟨by omega, ?_⟩
        rw [show i - k = (i - (k + 1)) + 1 from by omega]
        simpa using h2
  obtain ⟨_, h2⟩ := key vs 0 i v hv
  have hlt := (List.getElem?_eq_some_iff.1 h2).1
  rw [Array.getElem?_append_left (by simpa using hlt)]
  simpa using h2
theorem qap {f : FuncId} {fn : Func} {c : Code} {vs : List Value} {B0 : List BlkD} {R0 : List RowD} {Φ : List (World → Prop)} {γ : Type} {V : γ → Value} {B1 : γ → List BlkD} {R1 : γ → List RowD} {N : Nat} (hfn : P.funcs[f]? = some fn) (hb : fn.body = some c) (hn : fn.ntmps = N)
    (hvl : Nat.ble vs.length N = true) (hm : m = some r)
    (h : ∀ w, SXC P none N [] (muts B0 R0) w (bodyPostM (Wd none) 0 P fn fun e w' => ∃ g : γ, e = .returned (V g) ∧ Hp (muts B0 R0) w w' (B1 g) (R1 g) []) c (vs.zipIdx.map fun p => (p.2, p.1)) B0 R0 Φ m r) : PureM P f vs B0 R0 Φ γ V B1 R1 := by
  intro w hp
  refine (callsIn_wide (n := 0)).1 (callsIn_of_wp_marks hfn hb trivial (h w hm _ w ?_ hp))
  exact qg5 hn hvl
structure Rounds (σ τ : Type) where
  γ : Type
  δ : Type
  IB : σ → γ → List BlkD
  IR : σ → γ → List RowD
  XB : τ → δ → List BlkD
  XR : τ → δ → List RowD
  F : World → Prop
abbrev Rounds.G {σ τ : Type} (J : Rounds σ τ) : σ ⊕ τ → Type
  | .inl _ => J.γ
  | .inr _ => J.δ
abbrev Rounds.bs {σ τ : Type} (J : Rounds σ τ) : (z : σ ⊕ τ) → J.G z → List BlkD
  | .inl s => fun g => J.IB s g
  | .inr t => fun g => J.XB t g
abbrev Rounds.rs {σ τ : Type} (J : Rounds σ τ) : (z : σ ⊕ τ) → J.G z → List RowD
  | .inl s => fun g => J.IR s g
  | .inr t => fun g => J.XR t g
def YieldC {σ τ α : Type} (P : Program) (L : Nat) (encs : α → List Value) (J : Rounds σ τ) (y : σ → α → Option (σ ⊕ τ)) : Prop :=
  ∀ s x r, y s x = some r → ∀ (g : J.γ) w, Hp (muts (J.IB s g) (J.IR s g)) w w (J.IB s g) (J.IR s g) [J.F] →
    YieldAt (Wd none) 0 P L (encs x).toArray w fun e w' => e = .returned (.bool r.isLeft) ∧ ∃ g', Hp (muts (J.IB s g) (J.IR s g)) w w' (J.bs r g') (J.rs r g') []
theorem qcV {α : Type} : ∀ {R : List α}, Pick R R
  | [] => .nil
  | _ :: _ => .cons 0 rfl qcV
theorem qZ {α : Type} : ∀ {R S : List α} (i : Nat), R.drop i = S → Pick R S
  | _, _, 0, rfl => qcV
  | [], _, i + 1, h => by simp at h; subst h; exact .nil
  | a :: R, S, i + 1, h => by
    have h1 : Pick R S := qZ i (by simpa using h)
    have key : ∀ {R S : List α} {a : α}, Pick R S → Pick (a :: R) S := by
      intro R S a h
      induction h generalizing a with
      | nil => exact .nil
      | cons i h _ ih => exact .cons (i + 1) (by simpa using h) (by simpa using ih)
    exact key h1
theorem qaz {σ τ : Type} {J : Rounds σ τ} {fn : Func} {w : World} {B0 : List BlkD} {x z : σ ⊕ τ} {e : Exit} {v : Value} (g : J.G x) (he : e = .ret ∨ e = .normal) (hres : ∀ a w', Fr n [] a l → Hp M0 w w' B R F → (results fn a.tmps).run P w' = .ok v w')
    (hB : Pick B (B0 ++ J.bs x g)) (hR : Pick R (J.rs x g)) :
    SXQ n [] M0 w (bodyPost P fn fun e w' => ∃ g : J.G z, e = .returned v ∧ Hp M0 w w' (B0 ++ J.bs z g) (J.rs z g) []) e l B R F (some x) z := by
  intro hm a w' hf hp
  obtain rfl : x = z := by simpa using hm
  have : ∃ v', (results fn a.tmps).run P w' = .ok v' w' ∧ ∃ g : J.G x, Ending.returned v' = .returned v ∧ Hp M0 w w' (B0 ++ J.bs x g) (J.rs x g) [] :=
    ⟨v, hres a w' hf hp, g, rfl, hp.pick hB hR (by simp)⟩
  rcases he with rfl | rfl
  · exact ⟨hf.defers, this⟩
  · exact ⟨hf.defers, this⟩
theorem qcZ {σ τ α : Type} {encs : α → List Value} {J : Rounds σ τ} {y : σ → α → Option (σ ⊕ τ)} {L : Nat} (hY : YieldC P L encs J y) (s : σ) (x : α) (g : J.γ) {x0 : Operand} {xs : Array Operand} {tys : Array TypeId} {d j : Nat} {B1 : List BlkD} {R1 : List RowD} {k1 : σ → Option ρ} {k2 : τ → Option ρ}
    (hw : wants ops l ⟨some d, .call ⟨.value x0, xs, tys⟩, t, pos, af, gd⟩ = some true) (h0 : ev l x0 = some (.func (.yield L) #[] #[])) (hx : evArgs l xs.toList = some (encs x)) (hd : Nat.blt d n = true)
    (hB : B = B1 ++ J.IB s g) (hR : R = R1 ++ J.IR s g) (hF : F[j]? = some J.F)
    (h1 : ∀ s', y s x = some (.inl s') → ∀ g', SXO P ro n D M0 w0 Q ops rest ((d, .bool true) :: l) (B1 ++ J.IB s' g') (R1 ++ J.IR s' g') F (k1 s') r)
    (h2 : ∀ t, y s x = some (.inr t) → ∀ g', SXO P ro n D M0 w0 Q ops rest ((d, .bool false) :: l) (B1 ++ J.XB t g') (R1 ++ J.XR t g') F (k2 t) r) :
    SXO P ro n D M0 w0 Q ops (⟨some d, .call ⟨.value x0, xs, tys⟩, t, pos, af, gd⟩ :: rest) l B R F ((y s x).bind (Sum.elim k1 k2)) r := by
  intro hm a w hf hp
  cases hq : y s x with
  | none => rw [hq] at hm; simp at hm
  | some z =>
    rw [hq] at hm
    have hm' : Sum.elim k1 k2 z = some r := by simpa using hm
    subst hB hR
    have hp' := hp.perm (List.perm_append_comm) (List.perm_append_comm)
    have hst : Hp (muts (J.IB s g) (J.IR s g)) w w (J.IB s g) (J.IR s g) [J.F] := by
      refine hp'.startM fun φ hφ => ?_
      simp only [List.mem_singleton] at hφ
      subst hφ
      exact (hp'.per _ (List.mem_of_getElem? hF)).less fun k hk => jQ.mem_iff.2 (List.mem_append.2 (.inl hk))
    obtain ⟨fn, tmps, asg, body, hrun, hR2⟩ := hY s x z hq g w hst
    have hrun2 : (execOp a.eval ⟨some d, .call ⟨.value x0, xs, tys⟩, t, pos, af, gd⟩).run P w = .ok (.round L fn tmps asg body) w := by
      have e1 := hf.ev h0
      have e2 := hf.evArgs hx
      have e3 : xs.map a.eval = (encs x).toArray := by rw [← e2, ← Array.toList_map, Array.toArray_toList]
      generalize a.eval = ε at e1 e3 ⊢
      simp [execOp, resolve, e1, e3, Deferred.ofValue, invoke, hrun]
    refine j3 (zo hf hw) (kN hw) ?_
    rw [hrun2]
    refine ⟨fun hd => by simp [Wd] at hd, ?_⟩
    refine RoundIn.mono (show RoundIn (Wd ro) 0 P L fn tmps asg body w _ from hR2) ?_
    rintro e w' ⟨rfl, g', hp2⟩
    have hp3 := (hp'.callM hp2).perm (List.perm_append_comm) (List.perm_append_comm)
    cases z with
    | inl s' => exact h1 s' hq g' hm' _ _ (hf.put hd _) hp3
    | inr u => exact h2 u hq g' hm' _ _ (hf.put hd _) hp3
abbrev rdy (rc : Loop) : Loop := { rc with state := .ready, pending := none }
abbrev bsy (rc : Loop) : Loop := { rc with state := .busy, pending := none }
abbrev don (rc : Loop) (c : Code) : Loop := { rc with state := .done, pending := some c }
abbrev rnds {σ τ γ δ : Type} (IB : σ → γ → List BlkD) (IR : σ → γ → List RowD) (XB : τ → δ → List BlkD) (XR : τ → δ → List RowD) (jump : τ → Code) (F : List (World → Prop)) (rc : Loop) (L Dk : Nat) : Rounds σ τ where
  γ := γ
  δ := δ
  IB := fun s g => IB s g ++ [blkO L (.loop (rdy rc)), dblk Dk]
  IR := IR
  XB := fun t g => XB t g ++ [blkO L (.loop (don rc (jump t))), dblk Dk]
  XR := XR
  F := fun w => ∀ φ ∈ F, φ w
def qfa (P : Program) {σ τ : Type} (J : Rounds σ τ) (L : Nat) (M : List Nat) (w : World) (z : σ ⊕ τ) : Exit → Act → World → Prop :=
  roundPost P L (fun e w' => e = .returned (.bool z.isLeft) ∧ ∃ g', Hp M w w' (J.bs z g') (J.rs z g') [])
theorem qbo {L i : Nat} {rc : Loop} {body : Code} {Q : Exit → Act → World → Prop} (hB : B[i]? = some (blkO L (.loop (rdy rc)))) (h : SXC P (some L) n [] M0 w0 Q body l (B.set i (blkO L (.loop (bsy rc)))) R F m r) :
    SXQ n [] M0 w0 (Exit.then (fun a1 w1 => ∃ w2, (Instr.beginRound L).run P w1 = .ok () w2 ∧ gwp (some L) P body Q a1 w2) (fun _ _ _ => False)) .normal l B R F m r := by
  intro hm a w hf hp
  have hb : w.heap[L]? = some (.loop (rdy rc)) := hp.blk (blkO L (.loop (rdy rc))) (List.mem_of_getElem? hB)
  exact ⟨_, run_beginRound hb rfl, h hm _ _ hf (hp.setObj hB (.loop (bsy rc)))⟩
def jumpOf : Exit → Option Code
  | .ret => some .ret
  | .exit id => some (.exit id)
  | _ => none
def isJump : Exit → Bool
  | .ret => true
  | .exit _ => true
  | .normal => true
  | _ => false
theorem jc {σ τ : Type} {J : Rounds σ τ} {L : Nat} {rc : Loop} {B' : List BlkD} {x z : σ ⊕ τ} {e : Exit} (he : isJump e = true) (hT : Takes B [blkO L (.loop (bsy rc))] B') (hl : x.isLeft = (jumpOf e).isNone)
    (g' : J.G x) (hB : Pick (blkO L (.loop { rc with state := if (jumpOf e).isNone then .ready else .done, pending := jumpOf e }) :: B') (J.bs x g')) (hR : Pick R (J.rs x g')) :
    SXQ n [] M0 w0 (qfa P J L M0 w0 z) e l B R F (some x) z := by
  intro hm a w hf hp
  obtain rfl : x = z := by simpa using hm
  have hp' := hp.perm hT.perm (List.Perm.refl _)
  have hb : w.heap[L]? = some (.loop (bsy rc)) := hp'.blk (blkO L (.loop (bsy rc))) (by simp)
  have h2 := (hp'.setObj (i := 0) (b := blkO L (.loop (bsy rc))) rfl (.loop { rc with state := if (jumpOf e).isNone then .ready else .done, pending := jumpOf e })).pick hB hR (F' := []) (by simp)
  have key : ∃ v w', (Instr.endRound L (jumpOf e)).run P w = .ok v w' ∧ (Ending.returned v = .returned (.bool x.isLeft) ∧ ∃ g', Hp M0 w0 w' (J.bs x g') (J.rs x g') []) :=
    ⟨_, _, run_endRound (jumpOf e) hb, by rw [hl], g', h2⟩
  cases e <;> first | exact key | cases he
theorem qfo {xs : List (Tmp × Value)} : ∀ {a : Array Value} {l : Env}, (∀ p ∈ xs, p.1 < n) → Fr n [] { tmps := a, defers := [] } l → Fr n [] { tmps := xs.foldl (fun t (p, v) => t.setIfInBounds p v) a, defers := [] } (xs.foldl (fun l p => (p.1, p.2) :: l) l) := by
  induction xs with
  | nil => intro a l _ h; exact h
  | cons x xs ih =>
    intro a l hn h
    obtain ⟨p, v⟩ := x
    refine ih (fun q hq => hn q (List.mem_cons_of_mem _ hq)) ?_
    have hp := hn (p, v) (by simp)
    have := h.put (d := p) (v := v) (by simpa using hp)
    exact this
theorem jT {σ τ α γ δ : Type} {encs : α → List Value} {y : σ → α → Option (σ ⊕ τ)} {gop : Operand} {ps : Array Tmp} {assign body : Code} {gf : FuncId} {lb : List Value} {mi : Option (σ ⊕ τ)} {k1 : σ → Option ρ} {k2 : τ → Option ρ}
    (IB : σ → γ → List BlkD) (IR : σ → γ → List RowD) (XB : τ → δ → List BlkD) (XR : τ → δ → List RowD) (jump : τ → Code) (s0 : σ) (g0 : γ) {B0 B' BS : List BlkD} {RS : List RowD} {Φ : List (World → Prop)}
    (hg : ev l gop = some (.func (.func gf) #[] lb.toArray)) (he : Enters P gf) (hps : ∀ x, (encs x).length = ps.size) (hpn : ps.toList.all (fun p => Nat.blt p n) = true)
    (hB0 : Takes B B0 B') (hB1 : Takes B' (IB s0 g0) BS) (hR : Takes R (IR s0 g0) RS) (hΦ : ArgsM RS F Φ)
    (hC : ∀ z, mi = some z → ∀ rc L Dk, YieldC P L encs (rnds IB IR XB XR jump F rc L Dk) y →
      PureM P gf (.func (.yield L) #[] #[] :: lb) (B0 ++ (rnds IB IR XB XR jump F rc L Dk).IB s0 g0) (IR s0 g0) ((rnds IB IR XB XR jump F rc L Dk).F :: Φ) ((rnds IB IR XB XR jump F rc L Dk).G z) (fun _ => .tuple #[])
        (fun g => B0 ++ (rnds IB IR XB XR jump F rc L Dk).bs z g) (fun g => (rnds IB IR XB XR jump F rc L Dk).rs z g))
    (hbody : ∀ rc L Dk s g x z w M, M = muts (IB s g ++ [blkO L (.loop (rdy rc)), dblk Dk]) (IR s g) →
      SXC P (some L) n [] M w (Exit.then (fun a1 w1 => ∃ w2, (Instr.beginRound L).run P w1 = .ok () w2 ∧ gwp (some L) P body (qfa P (rnds IB IR XB XR jump F rc L Dk) L M w z) a1 w2) (fun _ _ _ => False))
        assign ((ps.toList.zip (encs x)).foldl (fun l p => (p.1, p.2) :: l) l) (IB s g ++ [blkO L (.loop (rdy rc)), dblk Dk]) (IR s g) F (y s x) z)
    (hdone : ∀ s, mi = some (.inl s) → ∀ g Dk, SXQ n (mark Dk :: D) M0 w0 Q .normal l (dblk Dk :: (B0 ++ (IB s g ++ BS))) (IR s g ++ RS) F (k1 s) r)
    (hstop : ∀ t, mi = some (.inr t) → ∀ g Dk, SXC P none n (mark Dk :: D) M0 w0 Q (jump t) l (dblk Dk :: (B0 ++ (XB t g ++ BS))) (XR t g ++ RS) F (k2 t) r) :
    SXC P none n D M0 w0 Q (.rangeFunc gop ps assign body) l B R F (mi.bind (Sum.elim k1 k2)) r := by
  intro hm a w hf hp
  cases hq : mi with
  | none => rw [hq] at hm; simp at hm
  | some z =>
  rw [hq] at hm
  have hm' : Sum.elim k1 k2 z = some r := by simpa using hm
  refine wpIn_rangeFunc ?_
  intro fn _
  obtain ⟨rc, hrc⟩ : ∃ rc : Loop, rc = { state := .ready, pending := none, fn, tmps := a.tmps, params := ps, assign, body, defers := w.heap.size } := ⟨_, rfl⟩
  obtain ⟨L, hL⟩ : ∃ L, L = w.heap.size + 1 := ⟨_, rfl⟩
  obtain ⟨Dk, hDk⟩ : ∃ Dk, Dk = w.heap.size := ⟨_, rfl⟩
  obtain ⟨W1, hW1⟩ : ∃ W1, (w.alloc (.deferred (some []))).alloc (.loop (rdy rc)) = W1 := ⟨_, rfl⟩
  have hp1 : Hp M0 w0 W1 (blkO L (.loop (rdy rc)) :: dblk Dk :: B) R F := by
    rw [← hW1]
    have := (hp.allocO (.deferred (some []))).allocO (.loop (rdy rc))
    rw [World.size_alloc] at this
    rw [hL, hDk]
    exact this
  have hp2 : Hp M0 w0 W1 ((B0 ++ (IB s0 g0 ++ [blkO L (.loop (rdy rc)), dblk Dk])) ++ BS) (IR s0 g0 ++ RS) F := by
    refine hp1.perm ?_ hR.perm
    refine (List.Perm.append_left [_, _] (hB0.perm.trans (List.Perm.append_left _ hB1.perm))).trans ?_
    rw [← List.append_assoc, ← List.append_assoc, ← List.append_assoc]
    refine List.Perm.append_right _ ?_
    rw [List.append_assoc]
    exact List.perm_append_comm
  have hY : YieldC P L encs (rnds IB IR XB XR jump F rc L Dk) y := by
    intro s x z hz g w1 hp
    have hb : w1.heap[L]? = some (.loop (rdy rc)) := hp.blk (blkO L (.loop (rdy rc))) (by simp)
    have hy := run_yield (P := P) (args := (encs x).toArray) hb (by rw [hrc]; simpa using hps x)
    refine ⟨_, _, _, _, hy, roundIn_of_wpIn trivial ?_⟩
    have hfacts : Hp (muts (IB s g ++ [blkO L (.loop (rdy rc)), dblk Dk]) (IR s g)) w1 w1 (IB s g ++ [blkO L (.loop (rdy rc)), dblk Dk]) (IR s g) F := hp.facts fun φ hφ w' hk => hp.per _ (List.mem_singleton.2 rfl) w' hk φ hφ
    have hfr : Fr n [] { tmps := ((rdy rc).params.zip (encs x).toArray).foldl (fun tmps (t, a) => tmps.setIfInBounds t a) (rdy rc).tmps, defers := [] } ((ps.toList.zip (encs x)).foldl (fun l p => (p.1, p.2) :: l) l) := by
      have h0 : Fr n [] { tmps := a.tmps, defers := [] } l := ⟨rfl, hf.size, hf.val⟩
      have h1 := qfo (xs := ps.toList.zip (encs x)) (fun p hp => by
        have := (List.of_mem_zip hp).1
        rw [List.all_eq_true] at hpn
        simpa using hpn p.1 this) h0
      rw [hrc]
      have h2 : (ps.zip (encs x).toArray).foldl (fun tmps (t, a) => tmps.setIfInBounds t a) a.tmps = (ps.toList.zip (encs x)).foldl (fun tmps (t, a) => tmps.setIfInBounds t a) a.tmps := by
        rw [← Array.foldl_toList]
        simp
      simp only [h2]
      exact h1
    have := hbody rc L Dk s g x z w1 _ rfl hz _ w1 hfr hfacts
    rw [hrc] at this ⊢
    exact this
  have hrun := hC z hq rc L Dk hY W1 (hp2.startM fun φ hφ => by
    rcases List.mem_cons.1 hφ with rfl | hφ
    · intro w' hk φ hφ
      exact ((hp2.per _ hφ).less fun k hk => jQ.mem_iff.2 (List.mem_append.2 (.inl hk))) w' hk
    · exact hΦ.ok hp2 φ hφ)
  refine ⟨L, [mark Dk], W1, { target := .fn (.func gf) lb.toArray, args := #[.func (.yield L) #[] #[]] }, W1, gf, #[.func (.yield L) #[] #[]] ++ lb.toArray, W1, ?_, ?_, fun _ _ => trivial, ?_, fun h => by simp [Wd] at h, ?_⟩
  · rw [← hW1, hrc, hL, hDk]; exact run_enterLoop_outer _ _ _ _ _
  · have e1 := hf.ev hg
    simp only [resolve, e1]
    simp [go_sem]
  · simp [invoke, go_sem]
    exact he _ W1
  · refine callsIn_wide.2 ?_
    have harr : (.func (.yield L) #[] #[] :: lb : List Value).toArray = #[.func (.yield L) #[] #[]] ++ lb.toArray := by simp
    rw [← harr]
    refine hrun.mono ?_
    rintro e w' ⟨g', rfl, hpe⟩
    have hp3 := hp2.callM hpe
    have hfr : Fr n (mark Dk :: D) { a with defers := [mark Dk] ++ a.defers } l := ⟨by simp [hf.defers], hf.size, hf.val⟩
    cases z with
    | inl s =>
      have hb : w'.heap[L]? = some (.loop (rdy rc)) := hp3.blk (blkO L (.loop (rdy rc))) (List.mem_append.2 (.inl (List.mem_append.2 (.inr (List.mem_append.2 (.inr (by simp)))))))
      refine ⟨none, _, run_endLoop hb (by simp), ?_⟩
      refine hdone s hq g' Dk hm' _ _ hfr ?_
      have hp4 : Hp M0 w0 w' (blkO L (.loop (rdy rc)) :: (dblk Dk :: (B0 ++ (IB s g' ++ BS)))) (IR s g' ++ RS) F := by
        refine hp3.perm ?_ (List.Perm.refl _)
        show ((B0 ++ (IB s g' ++ [blkO L (.loop (rdy rc)), dblk Dk])) ++ BS).Perm ([blkO L (.loop (rdy rc)), dblk Dk] ++ (B0 ++ (IB s g' ++ BS)))
        rw [← List.append_assoc, ← List.append_assoc, ← List.append_assoc]
        refine List.Perm.append_right _ ?_
        rw [List.append_assoc [_, _]]
        exact List.perm_append_comm
      exact (hp4.setObj (i := 0) (b := blkO L (.loop (rdy rc))) rfl _).weaken (by simp) (List.Sublist.refl _) (fun φ h => h)
    | inr t =>
      have hb : w'.heap[L]? = some (.loop (don rc (jump t))) := hp3.blk (blkO L (.loop (don rc (jump t)))) (List.mem_append.2 (.inl (List.mem_append.2 (.inr (List.mem_append.2 (.inr (by simp)))))))
      refine ⟨some (jump t), _, run_endLoop hb (by simp), ?_⟩
      refine hstop t hq g' Dk hm' _ _ hfr ?_
      have hp4 : Hp M0 w0 w' (blkO L (.loop (don rc (jump t))) :: (dblk Dk :: (B0 ++ (XB t g' ++ BS)))) (XR t g' ++ RS) F := by
        refine hp3.perm ?_ (List.Perm.refl _)
        show ((B0 ++ (XB t g' ++ [blkO L (.loop (don rc (jump t))), dblk Dk])) ++ BS).Perm ([blkO L (.loop (don rc (jump t))), dblk Dk] ++ (B0 ++ (XB t g' ++ BS)))
        rw [← List.append_assoc, ← List.append_assoc, ← List.append_assoc]
        refine List.Perm.append_right _ ?_
        rw [List.append_assoc [_, _]]
        exact List.perm_append_comm
      exact (hp4.setObj (i := 0) (b := blkO L (.loop (don rc (jump t)))) rfl _).weaken (by simp) (List.Sublist.refl _) (fun φ h => h)
theorem qdG {f : FuncId} {xs : Array Operand} {vs : List Value} {d : Nat} (hw : wants ops l ⟨some d, .makeFunc (.func f) #[] xs, t, pos, af, gd⟩ = some true) (hx : evArgs l xs.toList = some vs) (hd : Nat.blt d n = true)
    (h : SXO P ro n D M0 w0 Q ops rest ((d, .func (.func f) #[] vs.toArray) :: l) B R F m r) : SXO P ro n D M0 w0 Q ops (⟨some d, .makeFunc (.func f) #[] xs, t, pos, af, gd⟩ :: rest) l B R F m r :=
  qW _ hw rfl hd (fun a w hf _ => by
    have h2 := hf.evArgs hx
    have h3 : xs.map a.eval = vs.toArray := by rw [← h2, ← Array.toList_map, Array.toArray_toList]
    generalize a.eval = ε at h3 ⊢
    simp [execOp, Instr.makeFunc, h3]) h
theorem qcS {i : Nat} {v : Value} : ∀ (l' : Env), (∀ p ∈ l', look l p.1 = some p.2) → look l' i = some v → look l i = some v
  | [], _, h => by simp [look] at h
  | (k, u) :: l', h, hv => by
    rw [vo] at hv
    split at hv
    · rename_i e
      subst e
      rw [← hv]
      exact h (_, u) (by simp)
    · exact qcS l' (fun p hp => h p (List.mem_cons_of_mem _ hp)) hv
theorem qat {c : Code} (l' : Env) (h : ∀ p ∈ l', look l p.1 = some p.2) (hc : SXC P ro n D M0 w0 Q c l' B R F m r) : SXC P ro n D M0 w0 Q c l B R F m r :=
  fun hm a w hf hp => hc hm a w ⟨hf.defers, hf.size, fun i v hv => hf.val i v (qcS l' h hv)⟩ hp
end
end SX
namespace SX
open Go
section
variable {P : Program} {ro : Option Nat} {ops : Array Oper} {Q : Exit → Act → World → Prop}
def opK (ro : Option Nat) (P : Program) (ops : Array Oper) (Q : Exit → Act → World → Prop) (i : Nat) (K : Act → World → Prop) (a : Act) (w : World) : Prop := wpOpIn (Wd ro) 0 P ops Q i K a w
def anyK (ro : Option Nat) (P : Program) (ops : Array Oper) (Q : Exit → Act → World → Prop) (S : Array Bool → World → Prop) : Nat → Array Bool → Act → World → Prop
  | 0, done, a, w => Region.ready .any ops done = [] ∧ Q .normal a w
  | fuel + 1, done, a, w => (Region.ready .any ops done = [] → Q .normal a w) ∧
    ∀ i ∈ Region.ready .any ops done, opK ro P ops Q i (fun a' w' => S (done.setIfInBounds i true) w' ∧ anyK ro P ops Q S fuel (done.setIfInBounds i true) a' w') a w
theorem qbS {S : Array Bool → World → Prop} : ∀ (fuel : Nat) (done : Array Bool) (a : Act) (w : World), anyK ro P ops Q S fuel done a w → wpAnyIn (Wd ro) 0 P .any ops Q fuel done a w
  | 0, _, _, _, h => h
  | fuel + 1, _, _, _, h => ⟨h.1, fun i hi => wpOpIn_mono (fun a' w' h' => qbS fuel _ a' w' h'.2) (h.2 i hi)⟩
def calmA (ops : Array Oper) : Bool := ops.all fun o => calm o
theorem qaM (h : calmA ops = true) {j : Nat} {o : Oper} (ho : ops[j]? = some o) : ∀ c, o.op ≠ .defer c := by
  have := Array.all_eq_true_iff_forall_mem.1 h o (Array.mem_of_getElem? ho)
  intro c hc
  unfold calm at this
  rw [hc] at this
  simp at this
def YI (P : Program) (ops : Array Oper) (T : World → Prop) (o : Oper) (v : Value) (a : Act) : Prop :=
  (Region.wanted o (yielded ops a.tmps) = true ∧ ∀ w, T w → (execOp a.eval o).run P w = .ok (.value v) w) ∨ (Region.wanted o (yielded ops a.tmps) = false ∧ v = undef)
theorem YI.of_same {T : World → Prop} {o : Oper} {v : Value} {a a' : Act} (hy : YI P ops T o v a) (he : execOp a'.eval o = execOp a.eval o) (hw : Region.wanted o (yielded ops a'.tmps) = Region.wanted o (yielded ops a.tmps)) : YI P ops T o v a' := by
  unfold YI at *
  rw [he, hw]
  exact hy
theorem YI.op {T : World → Prop} {i : Nat} {o : Oper} {v : Value} {a : Act} (hi : ops[i]? = some o) (hc : ∀ c, o.op ≠ .defer c) (hy : YI P ops T o v a) {K : Act → World → Prop} {w : World} (hT : T w) (h : K (a.put o.dst v) w) : opK ro P ops Q i K a w := by
  unfold opK wpOpIn
  simp only [hi]
  rcases hy with ⟨hw, hv⟩ | ⟨hw, rfl⟩
  · rw [if_pos hw]
    refine ⟨fun _ _ => trivial, ?_⟩
    rw [Oper.semAt_eq _ _ _ hc, hv w hT]
    exact h
  · rw [if_neg (by rw [hw]; simp)]
    exact ⟨fun _ _ => trivial, h⟩
theorem qha {T : World → Prop} {j : Nat} {oi oj : Oper} {v : Value} (hj : ops[j]? = some oj) (hcj : ∀ c, oj.op ≠ .defer c) (hap : oi.apart ops oj = true) (hsi : ∀ cs b, oi.op ≠ .select cs b) (hsj : ∀ cs b, oj.op ≠ .select cs b)
    (hQ : ∀ c a w, Q (.panic c) (a.put oi.dst v) w → Q (.panic c) a w) {K : Act → World → Prop} {a : Act} {w : World} (hy : YI P ops T oi v a) (h : opK ro P ops Q j K (a.put oi.dst v) w) :
    opK ro P ops Q j (fun a' w' => YI P ops T oi v a' ∧ K (a'.put oi.dst v) w') a w := by
  obtain ⟨h1, h2, h3⟩ := Oper.apart_spec hap
  have keep : ∀ (a : Act), YI P ops T oi v a → ∀ u, YI P ops T oi v (a.put oj.dst u) := fun a hy u => hy.of_same (execOp_put oi hsi a oj.dst u h3) (wanted_put oi a oj.dst u h3)
  unfold opK wpOpIn at *
  simp only [hj] at *
  rw [wanted_put oj a oi.dst v h1] at h
  split
  · rename_i hw
    rw [if_pos hw] at h
    refine ⟨fun _ _ => trivial, ?_⟩
    have h' := h.2
    rw [Oper.semAt_eq _ _ _ hcj] at h' ⊢
    rw [execOp_put oj hsj a oi.dst v h1] at h'
    generalize (execOp a.eval oj).run P w = x at h' ⊢
    cases x with
    | ok n w' =>
      cases n with
      | value u => exact ⟨keep a hy u, by rw [← Act.put_comm a v u h2]; exact h'⟩
      | skip => exact ⟨keep a hy _, by rw [← Act.put_comm a v undef h2]; exact h'⟩
      | defer d =>
        refine ⟨keep { a with defers := d :: a.defers } (hy.of_same rfl rfl) _, ?_⟩
        rw [← Act.put_comm _ v undef h2, ← Act.put_defers]
        exact h'
      | enter f args =>
        refine ⟨h'.1, h'.2.mono fun e w'' he => ?_⟩
        cases e with
        | returned u => exact ⟨keep a hy u, by rw [← Act.put_comm a v u h2]; exact he⟩
        | panicked c => exact hQ _ _ _ he
        | outgrown => exact he
      | row row args => exact ⟨h'.1, h'.2.mono fun u w'' he => ⟨keep a hy u, by rw [← Act.put_comm a v u h2]; exact he⟩⟩
      | round l f tmps asg body =>
        refine ⟨h'.1, h'.2.mono fun e w'' he => ?_⟩
        cases e with
        | returned u => exact ⟨keep a hy u, by rw [← Act.put_comm a v u h2]; exact he⟩
        | panicked c => exact hQ _ _ _ he
        | outgrown => exact he
      | _ => exact h'
    | halt x w' => cases x <;> first | exact hQ _ _ _ h' | exact h'
  · rename_i hw
    rw [if_neg hw] at h
    exact ⟨fun _ _ => trivial, keep a hy _, by rw [← Act.put_comm a v undef h2]; exact h.2⟩
def Closed (ops : Array Oper) (done : Array Bool) : Prop := ∀ d o, ops[d]? = some o → done.getD d true = true → ∀ e ∈ o.after, Region.binds .any e = true → done.getD e.on false = true
def qdo (ops : Array Oper) (done : Array Bool) : Bool :=
  (List.range ops.size).all fun d => !(done.getD d true) || (match ops[d]? with | some o => o.after.all fun e => !(Region.binds .any e) || done.getD e.on false | none => true)
theorem qaw {done : Array Bool} (h : qdo ops done = true) : Closed ops done := by
  intro d o ho hd e he hb
  have hlt := (Array.getElem?_eq_some_iff.1 ho).1
  have := List.all_eq_true.1 h d (List.mem_range.2 hlt)
  rw [hd, ho] at this
  simp only [Bool.not_true, Bool.false_or] at this
  have := Array.all_eq_true_iff_forall_mem.1 this e he
  rw [hb] at this
  simpa using this
theorem Closed.step {done : Array Bool} {j : Nat} (h : Closed ops done) (hj : j ∈ Region.ready .any ops done) : Closed ops (done.setIfInBounds j true) := by
  intro d o ho hd e he hb
  obtain ⟨_, oj, hoj, hall⟩ := mem_ready.1 hj
  by_cases hjd : j = d
  · subst hjd
    rw [ho] at hoj
    cases hoj
    exact getD_set_true (hall e he hb)
  · rw [getD_set_ne true hjd] at hd
    exact getD_set_true (h d o ho hd e he hb)
def edgeB (ops : Array Oper) (c d : Nat) : Bool := match ops[d]? with | some o => o.after.any fun e => Region.binds .any e && e.on == c | none => false
def chB (ops : Array Oper) : Nat → List Nat → Nat → Bool
  | c, [], p => c == p
  | c, d :: ds, p => edgeB ops c d && chB ops d ds p
theorem chain {done : Array Bool} (h : Closed ops done) : ∀ (ds : List Nat) (c p : Nat), chB ops c ds p = true → done.getD p true = true → done.getD c true = true
  | [], c, p, hc, hp => by
    have : c = p := by simpa [chB] using hc
    rw [this]; exact hp
  | d :: ds, c, p, hc, hp => by
    simp only [chB, Bool.and_eq_true] at hc
    have hd := chain h ds d p hc.2 hp
    have he := hc.1
    unfold edgeB at he
    cases ho : ops[d]? with
    | none => rw [ho] at he; simp at he
    | some o =>
      rw [ho] at he
      simp only at he
      rw [Array.any_eq_true] at he
      obtain ⟨k, hk, hb⟩ := he
      simp only [Bool.and_eq_true, beq_iff_eq] at hb
      have := h d o ho hd o.after[k] (Array.getElem_mem hk) hb.1
      rw [hb.2] at this
      simp only [Array.getD_eq_getD_getElem?] at this ⊢
      cases hx : done[c]? with
      | none => rw [hx] at this; simp at this
      | some b => rw [hx] at this; simpa using this
theorem jZ {T : World → Prop} {S : Array Bool → World → Prop} {i : Nat} {oi : Oper} {v : Value} (hi : ops[i]? = some oi) (hcalm : calmA ops = true) (hsel : ∀ (j : Nat) (o : Oper) cs b, ops[j]? = some o → o.op ≠ .select cs b)
    (hQ : ∀ c a w, Q (.panic c) (a.put oi.dst v) w → Q (.panic c) a w) (hST : ∀ done w, done.getD i true = false → Closed ops done → S done w → T w)
    (hSi : ∀ done w, S (done.setIfInBounds i true) w → S done w) (hSm : ∀ done w, S done w → S (done.setIfInBounds i true) w) :
    ∀ (fuel : Nat) (done : Array Bool) (a : Act) (w : World),
      (∀ j oj, ops[j]? = some oj → j ≠ i → done.getD j true = false → (∀ e ∈ oj.after, Region.binds .any e = true → e.on ≠ i) → oi.apart ops oj = true) →
      i ∈ Region.ready .any ops done → Closed ops done → YI P ops T oi v a → S done w →
      anyK ro P ops Q S fuel (done.setIfInBounds i true) (a.put oi.dst v) w → anyK ro P ops Q S (fuel + 1) done a w := by
  intro fuel
  induction fuel with
  | zero =>
    intro done a w _ hr hcl hy hS H
    refine ⟨fun h => (by rw [h] at hr; cases hr), fun j hj => ?_⟩
    by_cases hji : j = i
    · subst hji
      exact hy.op hi (qaM hcalm hi) (hST _ _ (mem_ready.1 hr).1 hcl hS) ⟨hSm _ _ hS, H⟩
    · have := ready_mono hj hji
      rw [H.1] at this
      cases this
  | succ fuel ih =>
    intro done a w hfree hr hcl hy hS H
    refine ⟨fun h => (by rw [h] at hr; cases hr), fun j hj => ?_⟩
    by_cases hji : j = i
    · subst hji
      exact hy.op hi (qaM hcalm hi) (hST _ _ (mem_ready.1 hr).1 hcl hS) ⟨hSm _ _ hS, H⟩
    · have h1 := H.2 j (ready_mono hj hji)
      obtain ⟨hjun, oj, hoj, hall⟩ := mem_ready.1 hj
      have hnot : ∀ e ∈ oj.after, Region.binds .any e = true → e.on ≠ i := fun e he hb heq => by
        have h1 := hall e he hb
        have h0 := (mem_ready.1 hr).1
        rw [heq] at h1
        simp only [Array.getD_eq_getD_getElem?] at h0 h1
        cases hx : done[i]? with
        | none => rw [hx] at h1; simp at h1
        | some b => rw [hx] at h0 h1; simp at h0 h1; rw [h0] at h1; cases h1
      have h2 := qha hoj (qaM hcalm hoj) (hfree j oj hoj hji hjun hnot) (fun cs b => hsel i oi cs b hi) (fun cs b => hsel j oj cs b hoj) hQ hy h1
      have hfree' : ∀ k ok, ops[k]? = some ok → k ≠ i → (done.setIfInBounds j true).getD k true = false → (∀ e ∈ ok.after, Region.binds .any e = true → e.on ≠ i) → oi.apart ops ok = true := fun k ok hk hki hun hno => by
        refine hfree k ok hk hki ?_ hno
        by_cases hjk : j = k
        · subst hjk; exact hjun
        · rw [getD_set_ne true hjk] at hun; exact hun
      refine wpOpIn_mono (fun a' w' h3 => ?_) h2
      have hS' : S (done.setIfInBounds j true) w' := hSi _ _ (by rw [Array.setIfInBounds_comm _ _ hji]; exact h3.2.1)
      refine ⟨hS', ih (done.setIfInBounds j true) a' w' hfree' (ready_mono hr (Ne.symm hji)) (hcl.step hj) h3.1 hS' ?_⟩
      rw [Array.setIfInBounds_comm _ _ hji]
      exact h3.2.2
end
section
variable {P : Program} {ro : Option Nat} {n : Nat} {D : List Deferred} {M0 : List Nat} {w0 : World} {Q : Exit → Act → World → Prop} {ρ : Type}
variable {ops : Array Oper} {rest : List Oper} {l : Env} {B Bs : List BlkD} {R : List RowD} {F Fs : List (World → Prop)} {m : Option ρ} {r : ρ} {ps : List Nat}
def Sh (ps : List Nat) (Bs : List BlkD) (Fs : List (World → Prop)) (done : Array Bool) (w : World) : Prop := (∀ b ∈ Bs, b.is w) ∧ ((∀ p ∈ ps, done.getD p true = false) → ∀ φ ∈ Fs, φ w)
def SXB (P : Program) (ro : Option Nat) (ps : List Nat) (n : Nat) (D : List Deferred) (M0 : List Nat) (w0 : World) (Q : Exit → Act → World → Prop) {ρ : Type} (ops : Array Oper) (Bs : List BlkD) (Fs : List (World → Prop)) (fuel : Nat) (done : Array Bool)
    (l : Env) (B : List BlkD) (R : List RowD) (F : List (World → Prop)) (m : Option ρ) (r : ρ) : Prop :=
  m = some r → ∀ a w, Fr n D a l → Hp M0 w0 w B R F → Sh ps Bs Fs done w → anyK ro P ops Q (Sh ps Bs Fs) fuel done a w
theorem qn : ∀ φ ∈ ([] : List (World → Prop)), φ ∈ F ∨ (∃ rd ∈ R, ∀ w, Cells rd.v rd.n rd.size rd.cs w → φ w) ∨ ∃ b ∈ B, ∀ w, b.is w → φ w := by simp
theorem q4 {φ : World → Prop} {r : List (World → Prop)} (j : Nat) (h : F[j]? = some φ) (hr : ∀ φ ∈ r, φ ∈ F ∨ (∃ rd ∈ R, ∀ w, Cells rd.v rd.n rd.size rd.cs w → φ w) ∨ ∃ b ∈ B, ∀ w, b.is w → φ w) :
    ∀ ψ ∈ (φ :: r), ψ ∈ F ∨ (∃ rd ∈ R, ∀ w, Cells rd.v rd.n rd.size rd.cs w → ψ w) ∨ ∃ b ∈ B, ∀ w, b.is w → ψ w := by
  intro p hp
  rcases List.mem_cons.1 hp with rfl | hp
  · exact .inl (List.mem_of_getElem? h)
  · exact hr p hp
theorem zt {φ : World → Prop} {r : List (World → Prop)} (j : Nat) {rd : RowD} (h : R[j]? = some rd) (hφ : ∀ w, Cells rd.v rd.n rd.size rd.cs w → φ w) (hr : ∀ φ ∈ r, φ ∈ F ∨ (∃ rd ∈ R, ∀ w, Cells rd.v rd.n rd.size rd.cs w → φ w) ∨ ∃ b ∈ B, ∀ w, b.is w → φ w) :
    ∀ ψ ∈ (φ :: r), ψ ∈ F ∨ (∃ rd ∈ R, ∀ w, Cells rd.v rd.n rd.size rd.cs w → ψ w) ∨ ∃ b ∈ B, ∀ w, b.is w → ψ w := by
  intro p hp
  rcases List.mem_cons.1 hp with rfl | hp
  · exact .inr (.inl ⟨rd, List.mem_of_getElem? h, hφ⟩)
  · exact hr p hp
theorem qh0 {r : List (World → Prop)} (j : Nat) {b : BlkD} (h : B[j]? = some b) (hr : ∀ φ ∈ r, φ ∈ F ∨ (∃ rd ∈ R, ∀ w, Cells rd.v rd.n rd.size rd.cs w → φ w) ∨ ∃ b ∈ B, ∀ w, b.is w → φ w) :
    ∀ ψ ∈ (b.is :: r), ψ ∈ F ∨ (∃ rd ∈ R, ∀ w, Cells rd.v rd.n rd.size rd.cs w → ψ w) ∨ ∃ b ∈ B, ∀ w, b.is w → ψ w := by
  intro p hp
  rcases List.mem_cons.1 hp with rfl | hp
  · exact .inr (.inr ⟨b, List.mem_of_getElem? h, fun _ h => h⟩)
  · exact hr p hp
theorem jl {w : World} (hp : Hp M0 w0 w B R F) (hB : Pick B Bs) (hF : ∀ φ ∈ Fs, φ ∈ F ∨ (∃ rd ∈ R, ∀ w, Cells rd.v rd.n rd.size rd.cs w → φ w) ∨ ∃ b ∈ B, ∀ w, b.is w → φ w) : Stay Bs Fs w := by
  have h := hp.pick (B' := Bs) (R' := []) (F' := []) hB .nil (by simp)
  refine ⟨h.blk, fun φ hφ => ?_⟩
  rcases hF φ hφ with h1 | ⟨rd, h1, h2⟩ | ⟨b, h1, h2⟩
  · exact (hp.per φ h1).here
  · exact h2 w (zq (hp.row rd h1))
  · exact h2 w (hp.blk b h1)
theorem q6 {id : Nat} {os : List Oper} (hm : P.follows .mixedOrders = true) (ps : List Nat) (Bs : List BlkD) (Fs : List (World → Prop)) (hB : Pick B Bs) (hF : ∀ φ ∈ Fs, φ ∈ F ∨ (∃ rd ∈ R, ∀ w, Cells rd.v rd.n rd.size rd.cs w → φ w) ∨ ∃ b ∈ B, ∀ w, b.is w → φ w) (k : Nat) (hk : os.length = k)
    (h : SXB P ro ps n D M0 w0 (kz Q) os.toArray Bs Fs k (Array.replicate k false) l B R F m r) : SXC P ro n D M0 w0 Q (.region id os.toArray true) l B R F m r := by
  intro hmm a w hf hp
  refine qbY (Q := kz Q) (wpIn_region_any hm ?_) fun e a w hq => ?_
  · have hp' : Hp M0 w0 { w with drawn := w.drawn + 1 } B R F := hp.step (Keeps.of_heap rfl rfl rfl rfl)
    have := h hmm a _ hf hp' ⟨(jl hp' hB hF).1, fun _ => (jl hp' hB hF).2⟩
    refine qbS (S := Sh ps Bs Fs) _ _ _ _ ?_
    simpa [hk] using this
  · cases e <;> first | exact hq | exact hq.elim
def chsB (ops : Array Oper) (i : Nat) : List (List Nat) → List Nat → Bool
  | [], [] => true
  | c :: cs, p :: ps => chB ops i c p && chsB ops i cs ps
  | _, _ => false
theorem qe2 {i : Nat} {done : Array Bool} (hcl : Closed ops done) (hd : done.getD i true = false) : ∀ (cs : List (List Nat)) (ps : List Nat), chsB ops i cs ps = true → ∀ p ∈ ps, done.getD p true = false
  | [], [], _, p, hp => by simp at hp
  | c :: cs, q :: ps, h, p, hp => by
    simp only [chsB, Bool.and_eq_true] at h
    rcases List.mem_cons.1 hp with rfl | hp
    · cases hx : done.getD p true with
      | false => rfl
      | true => rw [chain hcl c i p h.1 hx] at hd; exact hd
    · exact qe2 hcl hd cs ps h.2 p hp
  | [], _ :: _, h, _, _ => by simp [chsB] at h
  | _ :: _, [], h, _, _ => by simp [chsB] at h
theorem Sh.set {i : Nat} {done : Array Bool} {w : World} (hi : ps.contains i = false) : Sh ps Bs Fs (done.setIfInBounds i true) w ↔ Sh ps Bs Fs done w := by
  have key : ∀ p ∈ ps, (done.setIfInBounds i true).getD p true = done.getD p true := fun p hp => getD_set_ne true (by rintro rfl; simp [hp] at hi)
  unfold Sh
  constructor
  · intro h; exact ⟨h.1, fun h2 => h.2 fun p hp => by rw [key p hp]; exact h2 p hp⟩
  · intro h; exact ⟨h.1, fun h2 => h.2 fun p hp => by rw [← key p hp]; exact h2 p hp⟩
def okP (ops : Array Oper) (ps : List Nat) (done : Array Bool) (i d n : Nat) : Bool :=
  calmA ops && (Region.noSelect ops && (Region.free .any ops done i && ((Region.ready .any ops done).contains i && (qdo ops done && (!ps.contains i && Nat.blt d n)))))
theorem qbM {ops : Array Oper} {ps : List Nat} {done : Array Bool} {i d n : Nat} (h : okP ops ps done i d n = true) : calmA ops = true ∧ Region.noSelect ops = true ∧ Region.free .any ops done i = true ∧ (Region.ready .any ops done).contains i = true ∧ qdo ops done = true ∧ ps.contains i = false ∧ Nat.blt d n = true := by
  unfold okP at h
  rw [Bool.and_eq_true, Bool.and_eq_true, Bool.and_eq_true, Bool.and_eq_true, Bool.and_eq_true, Bool.and_eq_true] at h
  exact ⟨h.1, h.2.1, h.2.2.1, h.2.2.2.1, h.2.2.2.2.1, by simpa using h.2.2.2.2.2.1, h.2.2.2.2.2.2⟩
theorem q7 {fuel : Nat} {done : Array Bool} (i : Nat) {o : Oper} {d : Nat} (V : Value) (cs : List (List Nat)) (ho : ops[i]? = some o) (hd : o.dst = some d) (hw : wants ops l o = some true)
    (hy : Yv P l Bs Fs o V) (h : SXB P ro ps n D M0 w0 (kz Q) ops Bs Fs fuel (done.setIfInBounds i true) ((d, V) :: l) B R F m r) (hk : okP ops ps done i d n = true := by kernel_rfl) (hch : chsB ops i cs ps = true := by kernel_rfl) : SXB P ro ps n D M0 w0 (kz Q) ops Bs Fs (fuel + 1) done l B R F m r := by
  intro hm a w hf hp hS
  obtain ⟨hca, hs, hfr, hr, hcl, hni, hdn⟩ := qbM hk
  refine jZ (S := Sh ps Bs Fs) (T := Stay Bs Fs) (v := V) ho hca (Region.noSelect_spec hs) (fun c a w h => h) (fun done w h1 h2 h3 => ⟨h3.1, h3.2 (qe2 h2 h1 cs ps hch)⟩) (fun _ _ h => (Sh.set hni).1 h) (fun _ _ h => (Sh.set hni).2 h) fuel done a w (Region.free_spec ho hfr) (by simpa using hr) (qaw hcl)
    (.inl ⟨zo hf hw, fun w' hS' => hy n D a w' hf hS'⟩) hS ?_
  rw [hd]
  exact h hm _ _ (hf.put hdn _) hp ((Sh.set hni).2 hS)
theorem yu {fuel : Nat} {done : Array Bool} (i : Nat) {o : Oper} {d : Nat} (V : Value) (ho : ops[i]? = some o) (hd : o.dst = some d) (hw : wants ops l o = some true)
    (hy : Yv P l Bs [] o V) (h : SXB P ro ps n D M0 w0 (kz Q) ops Bs Fs fuel (done.setIfInBounds i true) ((d, V) :: l) B R F m r) (hk : okP ops ps done i d n = true := by kernel_rfl) : SXB P ro ps n D M0 w0 (kz Q) ops Bs Fs (fuel + 1) done l B R F m r := by
  intro hm a w hf hp hS
  obtain ⟨hca, hs, hfr, hr, hcl, hni, hdn⟩ := qbM hk
  refine jZ (S := Sh ps Bs Fs) (T := fun w => ∀ b ∈ Bs, b.is w) (v := V) ho hca (Region.noSelect_spec hs) (fun c a w h => h) (fun _ _ _ _ h => h.1) (fun _ _ h => (Sh.set hni).1 h) (fun _ _ h => (Sh.set hni).2 h) fuel done a w (Region.free_spec ho hfr) (by simpa using hr) (qaw hcl)
    (.inl ⟨zo hf hw, fun w' h => hy n D a w' hf ⟨h, by simp⟩⟩) hS ?_
  rw [hd]
  exact h hm _ _ (hf.put hdn _) hp ((Sh.set hni).2 hS)
theorem qo {fuel : Nat} {done : Array Bool} (i : Nat) {o : Oper} {d : Nat} (V : Value) (ho : ops[i]? = some o) (hd : o.dst = some d) (hw : wants ops l o = some true)
    (hy : Yv P l [] [] o V) (h : SXB P ro ps n D M0 w0 (kz Q) ops Bs Fs fuel (done.setIfInBounds i true) ((d, V) :: l) B R F m r) (hk : okP ops ps done i d n = true := by kernel_rfl) : SXB P ro ps n D M0 w0 (kz Q) ops Bs Fs (fuel + 1) done l B R F m r := by
  intro hm a w hf hp hS
  obtain ⟨hca, hs, hfr, hr, hcl, hni, hdn⟩ := qbM hk
  refine jZ (S := Sh ps Bs Fs) (T := fun _ => True) (v := V) ho hca (Region.noSelect_spec hs) (fun c a w h => h) (fun _ _ _ _ _ => trivial) (fun _ _ h => (Sh.set hni).1 h) (fun _ _ h => (Sh.set hni).2 h) fuel done a w (Region.free_spec ho hfr) (by simpa using hr) (qaw hcl)
    (.inl ⟨zo hf hw, fun w' _ => hy n D a w' hf ⟨by simp, by simp⟩⟩) hS ?_
  rw [hd]
  exact h hm _ _ (hf.put hdn _) hp ((Sh.set hni).2 hS)
theorem qgi {fuel : Nat} {done : Array Bool} (i : Nat) {o : Oper} {d : Nat} (ho : ops[i]? = some o) (hd : o.dst = some d) (hw : wants ops l o = some false)
    (h : SXB P ro ps n D M0 w0 (kz Q) ops Bs Fs fuel (done.setIfInBounds i true) ((d, undef) :: l) B R F m r) (hk : okP ops ps done i d n = true := by kernel_rfl) : SXB P ro ps n D M0 w0 (kz Q) ops Bs Fs (fuel + 1) done l B R F m r := by
  intro hm a w hf hp hS
  obtain ⟨hca, hs, hfr, hr, hcl, hni, hdn⟩ := qbM hk
  refine jZ (S := Sh ps Bs Fs) (T := fun _ => True) (v := undef) ho hca (Region.noSelect_spec hs) (fun c a w h => h) (fun _ _ _ _ _ => trivial) (fun _ _ h => (Sh.set hni).1 h) (fun _ _ h => (Sh.set hni).2 h) fuel done a w (Region.free_spec ho hfr) (by simpa using hr) (qaw hcl)
    (.inr ⟨zo hf hw, rfl⟩) hS ?_
  rw [hd]
  exact h hm _ _ (hf.put hdn _) hp ((Sh.set hni).2 hS)
theorem qg {fuel : Nat} {done : Array Bool} {d : Nat} {u v : Value} (hu : look l d = some u) (he : u = v) (h : SXB P ro ps n D M0 w0 Q ops Bs Fs fuel done ((d, v) :: l) B R F m r) : SXB P ro ps n D M0 w0 Q ops Bs Fs fuel done l B R F m r :=
  fun hm a w hf hp hS => h hm a w (hf.again hu he) hp hS
theorem qgh {fuel : Nat} {done : Array Bool} (hr : Region.ready .any ops done = []) (h : SXQ n D M0 w0 Q .normal l B R F m r) : SXB P ro ps n D M0 w0 Q ops Bs Fs fuel done l B R F m r :=
  fun hm a w hf hp _ => by
    have h1 := h hm a w hf hp
    cases fuel with
    | zero => exact ⟨hr, h1⟩
    | succ fuel => exact ⟨fun _ => h1, by rw [hr]; simp⟩
theorem qgj {fuel : Nat} {done done' : Array Bool} (i : Nat) {o : Oper} (ho : ops[i]? = some o) (hr : Region.ready .any ops done = [i]) (hdone : done.setIfInBounds i true = done')
    (h : SXO P ro n D M0 w0 (Exit.then (fun a w => Sh ps Bs Fs done' w ∧ anyK ro P ops Q (Sh ps Bs Fs) fuel done' a w) Q) ops [o] l B R F m r) : SXB P ro ps n D M0 w0 Q ops Bs Fs (fuel + 1) done l B R F m r := by
  intro hm a w hf hp hS
  refine ⟨fun h0 => (by rw [hr] at h0; cases h0), fun j hj => ?_⟩
  rw [hr] at hj
  simp only [List.mem_singleton] at hj
  subst hj
  have h1 := h hm a w hf hp
  rw [hdone]
  unfold zx wpListIn at h1
  unfold opK wpOpIn
  simp only [ho]
  split
  · rename_i hw
    rw [if_pos hw] at h1
    refine ⟨fun _ _ => trivial, ?_⟩
    exact Oper.uponIn_mono (fun a w h => h) (fun c a w h => h) (fun h => h) _ h1.2
  · rename_i hw
    rw [if_neg hw] at h1
    exact ⟨fun _ _ => trivial, h1.2⟩
theorem qs {fuel : Nat} {done : Array Bool} {K : Exit → Act → World → Prop} (hB : Pick B Bs) (hF : ∀ φ ∈ Fs, φ ∈ F ∨ (∃ rd ∈ R, ∀ w, Cells rd.v rd.n rd.size rd.cs w → φ w) ∨ ∃ b ∈ B, ∀ w, b.is w → φ w) (h : SXB P ro ps n D M0 w0 Q ops Bs Fs fuel done l B R F m r) :
    SXQ n D M0 w0 (Exit.then (fun a w => Sh ps Bs Fs done w ∧ anyK ro P ops Q (Sh ps Bs Fs) fuel done a w) K) .normal l B R F m r :=
  fun hm a w hf hp => ⟨⟨(jl hp hB hF).1, fun _ => (jl hp hB hF).2⟩, h hm a w hf hp ⟨(jl hp hB hF).1, fun _ => (jl hp hB hF).2⟩⟩
theorem qco {fuel : Nat} {done : Array Bool} {K : Exit → Act → World → Prop} (p : Nat) (hp : ps.contains p = true) (hd : done.getD p true = true) (hB : Pick B Bs) (h : SXB P ro ps n D M0 w0 Q ops Bs Fs fuel done l B R F m r) :
    SXQ n D M0 w0 (Exit.then (fun a w => Sh ps Bs Fs done w ∧ anyK ro P ops Q (Sh ps Bs Fs) fuel done a w) K) .normal l B R F m r := by
  intro hm a w hf hpp
  have hv : Sh ps Bs Fs done w := ⟨(jl (Fs := []) hpp hB (by simp)).1, fun h => by
    have := h p (by simpa using hp)
    rw [hd] at this
    cases this⟩
  exact ⟨hv, h hm a w hf hpp hv⟩
theorem qet {F : List (World → Prop)} {pos : String} {af : Array Edge} {gd : Option (Nat × Bool)} {d : Option Tmp} {x : Operand} {t' e t : TypeId} {agg : Bool} {z : Value} {size bytes j g o : Nat} {cs : List Value} {V : Value} (hx : ev l x = some (.pointer (some ⟨g, o, none⟩))) (hT : TyF P t' agg z size bytes)
    (hF : F[j]? = some (BlkD.is ⟨g, e, cs⟩)) (hl : ((cs.drop o).take size).length = size) (hs : agg = false → size = 1) (hV : (if agg then .agg ((cs.drop o).take size).toArray else ((cs.drop o).take size).getD 0 undef) = V) :
    Yv P l B F ⟨d, .load t' x, t, pos, af, gd⟩ V := fun n D a w hf hp =>
  kS (B := [⟨g, e, cs⟩]) (F := []) (i := 0) hx hT rfl hl hs hV n D a w hf ⟨fun b hb => by rw [List.mem_singleton] at hb; subst hb; exact hp.2 _ (List.mem_of_getElem? hF), by simp⟩
theorem qel {x : Code} {α : Type} {enc : α → List Value} {e size : Nat} {xs : List α} {k : α → Option ρ} {i : Int} {ao : Option Addr} {c j : Nat} (hR : R[j]? = some (Ro enc e size (.slice ao xs.length c) xs))
    (h : ∀ y, idx xs i = some y → ∀ g, ao = some ⟨g, 0, none⟩ → SXC P ro n D M0 w0 Q x l B R F (k y) r) :
    SXC P ro n D M0 w0 Q x l B R F ((idx xs i).bind k) r := by
  intro hm a w hf hp
  cases hq : idx xs i with
  | none => rw [hq] at hm; simp at hm
  | some y =>
    rw [hq] at hm
    have hm' : k y = some r := by simpa using hm
    obtain ⟨_, hlt, _⟩ := qr hq
    have hown := hp.row _ (List.mem_of_getElem? hR)
    rcases hown.2 with ⟨h5, h6⟩ | ⟨g, cap, cur, h5, _⟩
    · have h6' : xs.length = 0 := h6
      omega
    · have h5' : Value.slice ao xs.length c = .slice (some ⟨g, 0, none⟩) xs.length cap := h5
      simp only [Value.slice.injEq] at h5'
      exact h y hq g h5'.1 hm' a w hf hp
theorem qF {α : Type} {enc : α → List Value} {size : Nat} {xs : List α} {i : Int} {y : α} {g c e : Nat} {ao : Option Addr} (henc : EncOk enc size) (hy : idx xs i = some y) (ha : ao = some ⟨g, 0, none⟩) :
    ∀ w, Cells (Ro enc e size (.slice ao xs.length c) xs).v (Ro enc e size (.slice ao xs.length c) xs).n (Ro enc e size (.slice ao xs.length c) xs).size (Ro enc e size (.slice ao xs.length c) xs).cs w → qk g (i.toNat * size) (enc y) w := by
  intro w h jj u hj
  obtain ⟨⟨ao', cap', hv', _, _, _, hc'⟩, _⟩ := (h : Cells (.slice ao xs.length c) xs.length size (xs.flatMap enc) w)
  have hv2 : Value.slice ao xs.length c = .slice ao' xs.length cap' := hv'
  simp only [Value.slice.injEq] at hv2
  obtain ⟨rfl, -, -⟩ := hv2
  obtain ⟨_, _, hget⟩ := qr hy
  obtain ⟨ad', h3, h4⟩ := hc' (i.toNat * size + jj) u (ka henc xs i.toNat y jj u hget hj)
  rw [ha] at h3
  simp only [Option.some.injEq] at h3
  subst h3
  rw [← h4]
  simp
theorem vy {x ix : Operand} {ki : IntKind} {i : Int} {b0 k c d : Nat} {t' e t : TypeId} {agg : Bool} {z : Value} {size bytes : Nat} {pos : String} {af : Array Edge} {gd : Option (Nat × Bool)} (ht : P.underlying t' = some (.slice e)) (hT : TyF P e agg z size bytes) (hx : ev l x = some (.slice (some ⟨b0, 0, none⟩) k c)) (hi : ev l ix = some (.int ki i)) (h0 : 0 ≤ i) (hlt : i < (k : Int)) :
    Yv P l B F ⟨some d, .indexAddr t' x ix, t, pos, af, gd⟩ (.pointer (some ⟨b0, i.toNat * size, none⟩)) := by
  have := yc (B := B) (F := F) (d := some d) (t := t) (pos := pos) (af := af) (gd := gd) ht hT hx hi h0 hlt
  rw [Nat.zero_add] at this
  exact this
theorem vp {ao : Option Addr} {g k c : Nat} (ha : ao = some ⟨g, 0, none⟩) : (Value.slice ao k c).ownBlock = some g := by rw [ha]; rfl
variable {t : TypeId} {pos : String} {af : Array Edge} {gd : Option (Nat × Bool)}
theorem qaU {α : Type} {enc : α → List Value} {xs : List α} {x y : Operand} {t' e : TypeId} {agg : Bool} {z : Value} {size bytes j g i c : Nat} {ao : Option Addr} {V : Value} {y' : α} {k : List α → Option ρ} (henc : EncOk enc size) (hw : wants ops l ⟨none, .store t' x y, t, pos, af, gd⟩ = some true)
    (hx : ev l x = some (.pointer (some ⟨g, i * size, none⟩))) (hy : ev l y = some V) (hT : TyF P t' agg z size bytes)
    (hR : R[j]? = some (Ro enc e size (.slice ao xs.length c) xs)) (hg : (Value.slice ao xs.length c).ownBlock = some g) (hi : i < xs.length) (hV : V.cells.toList = enc y')
    (h : ∀ ys, xs.set i y' = ys → Value.slice ao xs.length c = .slice ao ys.length c → SXO P ro n D M0 w0 Q ops rest l B (Ro enc e size (.slice ao ys.length c) ys :: R.eraseIdx j) F (k ys) r) :
    SXO P ro n D M0 w0 Q ops (⟨none, .store t' x y, t, pos, af, gd⟩ :: rest) l B R F (lett (xs.set i y') k) r := by
  have hl : (xs.set i y').length = xs.length := List.length_set
  have hv : Value.slice ao xs.length c = .slice ao (xs.set i y').length c := by rw [hl]
  have h1 := h _ rfl hv
  rw [← hv] at h1
  exact qcn henc hw hx hy hT hR hg hi hV h1
theorem vZ {i g e : Nat} {cs cs' : List Value} (hB : B[i]? = some ⟨g, e, cs⟩) (he : cs = cs') (h : SXO P ro n D M0 w0 Q ops rest l (B.set i ⟨g, e, cs'⟩) R F m r) : SXO P ro n D M0 w0 Q ops rest l B R F m r := by
  subst he
  have : B.set i ⟨g, e, cs⟩ = B := by
    apply List.ext_getElem?
    intro j
    rw [List.getElem?_set]
    split
    · rename_i hij; subst hij; split
      · exact hB.symm
      · rename_i h2; simp at h2; simp [h2]
    · rfl
  rw [this] at h
  exact h
theorem qeN {x ix : Operand} {xt : TypeId} {s : ByteArray} {ki : IntKind} {i : Int} {d : Nat} {k : Int → Option ρ} {xs : List Int} (hw : wants ops l ⟨some d, .index xt x ix, t, pos, af, gd⟩ = some true) (ht : P.underlying xt = some .string) (hx : ev l x = some (.string s)) (hi : ev l ix = some (.int ki i)) (hs : s.data.toList.map (fun b => (b.toNat : Int)) = xs) (hd : Nat.blt d n = true)
    (h : ∀ y, idx xs i = some y → SXO P ro n D M0 w0 Q ops rest ((d, .int .u8 y) :: l) B R F (k y) r) :
    SXO P ro n D M0 w0 Q ops (⟨some d, .index xt x ix, t, pos, af, gd⟩ :: rest) l B R F ((idx xs i).bind k) r := by
  refine kp hw fun hm a w hf hp => ?_
  cases hq : idx xs i with
  | none => rw [hq] at hm; simp at hm
  | some y =>
    rw [hq] at hm
    have hm' : k y = some r := by simpa using hm
    obtain ⟨h0, hlt, hy⟩ := qr hq
    obtain ⟨I, rfl⟩ := Int.eq_ofNat_of_zero_le h0
    have hy' : xs[I]? = some y := hy
    rw [← hs, List.getElem?_map] at hy'
    cases hb : s.data.toList[I]? with
    | none => rw [hb] at hy'; simp at hy'
    | some b =>
      rw [hb] at hy'
      simp only [Option.map_some, Option.some.injEq] at hy'
      have hb' : s[I]? = some b := by
        have h1 := (List.getElem?_eq_some_iff.1 hb)
        obtain ⟨h2, h3⟩ := h1
        have h4 : I < s.size := by rw [Array.length_toList] at h2; exact h2
        rw [getElem?_pos s I h4]
        exact congrArg some h3
      refine ⟨.int .u8 y, w, ?_, h y hq hm' _ _ (hf.put hd _) hp⟩
      have h1 := hf.ev hx
      have h2 := hf.ev hi
      generalize a.eval = ε at h1 h2 ⊢
      simp [execOp, h1, h2, Instr.index, asIntOf, run_underlying ht, hb', hy']
def imin (a b : Int) : Int := if b < a then b else a
def imax (a b : Int) : Int := if a < b then b else a
theorem jp {t' : TypeId} {z : Value} {parts : Array (Nat × Operand)} {vs : List (Nat × Value)} {places : List (Nat × Nat)} {cells : List Value} {d : Option Tmp} (hS : StF P t' places z) (hp : evParts l parts.toList = some vs)
    (hfill : Instr.fill (places.toArray[·]?) z.cells vs = some cells.toArray) : Yv P l B F ⟨d, .build t' parts, t, pos, af, gd⟩ (.agg cells.toArray) := fun n D a w hf _ => by
  have hpe := hf.evParts hp
  have hpa : (parts.map fun p => (p.1, a.eval p.2)) = vs.toArray := by rw [← hpe, ← Array.toList_map, Array.toArray_toList]
  obtain ⟨fs, hu, hpl, hin⟩ := hS.out
  obtain ⟨i, hi, hz⟩ := hS.zero
  have hm := qb4 (P := P) (w := w) fs.toList hin
  rw [hpl] at hm
  have hm' : (fs.mapM (fun f => Prod.mk f.offset <$> Go.sizeOf f.type) : Sem (Array (Nat × Nat))).run P w = .ok places.toArray w := by
    rw [Array.mapM_eq_mapM_toList]
    generalize (fs.toList.mapM (fun f => Prod.mk f.offset <$> Go.sizeOf f.type) : Sem (List (Nat × Nat))) = q at hm
    simp [hm]
  generalize a.eval = ε at hpa ⊢
  simp only [execOp, hpa, Instr.build]
  have hfill' : Instr.fill (fun x => places.toArray[x]?) z.cells vs = some cells.toArray := hfill
  generalize hq : (fs.mapM (fun f => Prod.mk f.offset <$> Go.sizeOf f.type) : Sem (Array (Nat × Nat))) = q at hm'
  simp [zeroValue, typeInfo, hi, hz, run_underlying hu, hq, hm']
  simp only [List.getElem?_toArray] at hfill'
  rw [hfill']
  simp
theorem yM {m' : Option ρ} (h : m = m') (hs : SXO P ro n D M0 w0 Q ops rest l B R F m' r) : SXO P ro n D M0 w0 Q ops rest l B R F m r := h ▸ hs
theorem yL {fuel : Nat} {done di dj : Array Bool} (i j : Nat) {oi oj : Oper} (hoi : ops[i]? = some oi) (hoj : ops[j]? = some oj) (hr : Region.ready .any ops done = [i, j]) (hdi : done.setIfInBounds i true = di) (hdj : done.setIfInBounds j true = dj)
    (h1 : SXO P ro n D M0 w0 (Exit.then (fun a w => Sh ps Bs Fs di w ∧ anyK ro P ops Q (Sh ps Bs Fs) fuel di a w) Q) ops [oi] l B R F m r)
    (h2 : SXO P ro n D M0 w0 (Exit.then (fun a w => Sh ps Bs Fs dj w ∧ anyK ro P ops Q (Sh ps Bs Fs) fuel dj a w) Q) ops [oj] l B R F m r) : SXB P ro ps n D M0 w0 Q ops Bs Fs (fuel + 1) done l B R F m r := by
  intro hm a w hf hp hS
  refine ⟨fun h0 => (by rw [hr] at h0; cases h0), fun q hq => ?_⟩
  have key : ∀ (q : Nat) (o : Oper) (d' : Array Bool), ops[q]? = some o → done.setIfInBounds q true = d' →
      SXO P ro n D M0 w0 (Exit.then (fun a w => Sh ps Bs Fs d' w ∧ anyK ro P ops Q (Sh ps Bs Fs) fuel d' a w) Q) ops [o] l B R F m r →
      opK ro P ops Q q (fun a' w' => Sh ps Bs Fs (done.setIfInBounds q true) w' ∧ anyK ro P ops Q (Sh ps Bs Fs) fuel (done.setIfInBounds q true) a' w') a w := by
    intro q o d' ho hd h
    have h1 := h hm a w hf hp
    rw [hd]
    unfold zx wpListIn at h1
    unfold opK wpOpIn
    simp only [ho]
    split
    · rename_i hw
      rw [if_pos hw] at h1
      refine ⟨fun _ _ => trivial, ?_⟩
      exact Oper.uponIn_mono (fun a w h => h) (fun c a w h => h) (fun h => h) _ h1.2
    · rename_i hw
      rw [if_neg hw] at h1
      exact ⟨fun _ _ => trivial, h1.2⟩
  rw [hr] at hq
  rcases List.mem_cons.1 hq with rfl | hq
  · exact key _ _ _ hoi hdi h1
  · rcases List.mem_cons.1 hq with rfl | hq
    · exact key _ _ _ hoj hdj h2
    · cases hq
def cutv (ao : Option Addr) (c size : Nat) (L H : Int) : Value := .slice (if c = L.toNat then ao else ao.map (·.add (L.toNat * size))) (H.toNat - L.toNat) (c - L.toNat)
theorem qcg {α : Type} {xs ys : List α} {li hj : Int} (h : sub xs li hj = some ys) : 0 ≤ li ∧ li ≤ hj ∧ hj ≤ xs.length ∧ ys = (xs.take hj.toNat).drop li.toNat := by
  unfold sub at h
  split at h
  · rename_i hb
    simp only [Option.some.injEq] at h
    exact ⟨hb.1, hb.2.1, hb.2.2, h.symm⟩
  · simp at h
theorem qgl {x : Code} {α : Type} {enc : α → List Value} {size c : Nat} {xs : List α} {k : List α → Option ρ} {li hj : Int} {ao : Option Addr} (j : Nat) (henc : EncOk enc size) (hF : F[j]? = some (Sl enc size (.slice ao xs.length c) xs))
    (h : ∀ ys, sub xs li hj = some ys → ∀ a' c', cutv ao c size li hj = .slice a' ys.length c' → xs.length ≤ c → SXC P ro n D M0 w0 Q x l B R (Sl enc size (.slice a' ys.length c') ys :: F) (k ys) r) :
    SXC P ro n D M0 w0 Q x l B R F ((sub xs li hj).bind k) r := by
  intro hm a w hf hp
  cases hq : sub xs li hj with
  | none => rw [hq] at hm; simp at hm
  | some ys =>
    rw [hq] at hm
    have hm' : k ys = some r := by simpa using hm
    obtain ⟨b1, b2, b3, rfl⟩ := qcg hq
    obtain ⟨L, rfl⟩ := Int.eq_ofNat_of_zero_le b1
    obtain ⟨H, rfl⟩ := Int.eq_ofNat_of_zero_le (Int.le_trans b1 b2)
    have b2' : L ≤ H := by omega
    have b3' : H ≤ xs.length := by omega
    have hnec := hp.per _ (List.mem_of_getElem? hF)
    have hcap : xs.length ≤ c := by
      obtain ⟨⟨a1, c1, hv1, hn1, _⟩, _⟩ := (hnec.here : Cells (.slice ao xs.length c) xs.length size (xs.flatMap enc) w)
      simp only [Value.slice.injEq] at hv1
      omega
    have hl : ((xs.take H).drop L).length = H - L := by simp; omega
    refine h _ hq (if c = L then ao else ao.map (·.add (L * size))) (c - L) (by rw [cutv]; simp only [Int.toNat_natCast, hl]) hcap hm' _ _ hf (hp.addFact ?_)
    intro w' hk'
    obtain ⟨a2, c2, hv2, hc2⟩ := Cells.cut (hnec w' hk' : Cells (.slice ao xs.length c) xs.length size (xs.flatMap enc) w') b2' b3'
    simp only [Value.slice.injEq] at hv2
    obtain ⟨rfl, -, rfl⟩ := hv2
    show Cells (.slice _ ((xs.take H).drop L).length _) ((xs.take H).drop L).length size (((xs.take H).drop L).flatMap enc) w'
    rw [hl, qdu henc, j2 henc]
    exact hc2
theorem qhV {α : Type} {xs ys : List α} {x : Operand} {lo hi : Option Operand} {li hj : Int} {ao : Option Addr} {c d : Nat} {V : Value} {t' e : TypeId} {agg : Bool} {z : Value} {size bytes : Nat} (ht : P.underlying t' = some (.slice e)) (hT : TyF P e agg z size bytes)
    (hx : ev l x = some (.slice ao xs.length c)) (hlo : evOpt l lo 0 = some li) (hhi : evOpt l hi (xs.length : Int) = some hj) (hs : sub xs li hj = some ys) (hcap : xs.length ≤ c) (hv : cutv ao c size li hj = V) :
    Yv P l B F ⟨some d, .slice t' x lo hi none, t, pos, af, gd⟩ V := by
  intro n D a w hf _
  obtain ⟨b1, b2, b3, _⟩ := qcg hs
  obtain ⟨L, rfl⟩ := Int.eq_ofNat_of_zero_le b1
  obtain ⟨H, rfl⟩ := Int.eq_ofNat_of_zero_le (Int.le_trans b1 b2)
  have b2' : L ≤ H := by omega
  have b3' : H ≤ xs.length := by omega
  subst hv
  have h1 := hf.ev hx
  have e1 := v7 hf hlo
  have e2 := v7 hf hhi
  have hb1 : (H : Int) ≤ (c : Int) := by omega
  have hb0 : (0 : Int) ≤ (H : Int) := by omega
  have hb2 : (L : Int) ≤ (H : Int) := by omega
  have hb3 : (0 : Int) ≤ (L : Int) := by omega
  have hn1 : H ≤ c := by omega
  generalize hε : a.eval = ε at h1 e1 e2 ⊢
  rcases e1 with ⟨k1, e1⟩ | ⟨rfl, e1⟩ <;> rcases e2 with ⟨k2, e2⟩ | ⟨rfl, e2⟩
  · simp [execOp, h1, e1, e2, Instr.sliceAt, Instr.slice, Instr.sliceBounds, Instr.sliceBound, asIntOf, run_underlying ht, hT.run_size, hb0, hb3, hn1, b2', cutv]
  · have : H = xs.length := by omega
    subst this
    simp [execOp, h1, e1, Instr.sliceAt, Instr.slice, Instr.sliceBounds, Instr.sliceBound, asIntOf, run_underlying ht, hT.run_size, hb3, b2', cutv]
  · have : L = 0 := by omega
    subst this
    simp [execOp, h1, e2, Instr.sliceAt, Instr.slice, Instr.sliceBounds, Instr.sliceBound, asIntOf, run_underlying ht, hT.run_size, hb0, hn1, cutv]
  · have : H = xs.length := by omega
    subst this
    have : L = 0 := by omega
    subst this
    simp [execOp, h1, Instr.sliceAt, Instr.slice, Instr.sliceBounds, run_underlying ht, hT.run_size, cutv]
end
end SX
namespace SX
open Go Go.ChangeShapes Go.WideShapes Go.ChangeAt Go.RowKit
variable {H : Type} {enc : TypeId × Value → H} {P : Program}
theorem qaJ (hl : laidOutB P = true) {W W' : World} (hb : Below W.heap.size W W') {sp : Nat → Bool} : ∀ {ts : List TypeId} {vs : List Value} {ds : List (DataW H)} {ps : List MemPlace},
    (ts.all fun t => P.readableRec t && Nat.blt t P.types.size) = true → DataW.TrodAll enc P W 0 (fun _ => true) true ts vs ds ps → (∀ x ∈ ps, x.block < W.heap.size) → (∀ x ∈ ps, sp x.block = true) →
    DataW.TrodAll enc P W' 0 sp true ts vs ds ps
  | [], vs, ds, ps, _, h, _, _ => by
    obtain ⟨rfl, rfl, rfl⟩ := trodAll_nil h
    exact h
  | t :: ts, vs, ds, ps, hts, h, hlt, hsp => by
    obtain ⟨v, vs', d, ds', p, q, rfl, rfl, rfl, h1, h2⟩ := trodAll_cons h
    simp only [List.all_cons, Bool.and_eq_true] at hts
    have hrow : t < P.types.size := by simpa using hts.1.2
    exact ⟨p, q, WideElems.Trod_stays hl hts.1.1 hrow h1 (fun x hx => hb.same (hlt x (List.mem_append.2 (.inl hx)))) (fun x hx => hsp x (List.mem_append.2 (.inl hx))),
      qaJ hl hb (by simpa using hts.2) h2 (fun x hx => hlt x (List.mem_append.2 (.inr hx))) (fun x hx => hsp x (List.mem_append.2 (.inr hx))), rfl⟩
theorem jR {W : World} {v : Value} {n size : Nat} {cs : List Value} (h : Cells v n size cs W) (hb : ∀ a len cap, v = .slice (some a) len cap → cs ≠ [] → a.block < W.heap.size) : Nec W [] (Cells v n size cs) := by
  intro w' hk
  obtain ⟨⟨a, cap, rfl, h1, h2, h3, h4⟩, hl⟩ := h
  refine ⟨⟨a, cap, rfl, h1, h2, h3, fun j u hj => ?_⟩, hl⟩
  obtain ⟨ad, rfl, hc⟩ := h4 j u hj
  refine ⟨ad, rfl, ?_⟩
  have hlt := hb ad n cap rfl (by rintro rfl; simp at hj)
  have := hk.block ad.block hlt (by simp)
  unfold World.cell? at hc ⊢
  simp only at hc ⊢
  rw [this]
  exact hc
theorem qg9 {W : World} : ∀ ψ ∈ ([] : List (World → Prop)), Nec W [] ψ := by simp
theorem qd8 {W : World} {φ : World → Prop} {Φ : List (World → Prop)} (h : Nec W [] φ) (hr : ∀ ψ ∈ Φ, Nec W [] ψ) : ∀ ψ ∈ φ :: Φ, Nec W [] ψ := by
  intro ψ hψ
  rcases List.mem_cons.1 hψ with rfl | hψ
  · exact h
  · exact hr ψ hψ
theorem qfZ {f : Func} {s : ChangeSpec} {apart fresh : Bool} {W W' : World} {args : Array Value} {ds gs : List (DataW H)} {before : List MemPlace} {tb : TypeId}
    (hl : laidOutB P = true) (hts : (f.params.toList.all fun t => P.readableRec t && Nat.blt t P.types.size) = true) (hrt : f.resultTypes = #[tb]) (hb : P.underlying tb = some .bool) (hv : s.vars = [])
    (hW : DataW.Whole enc P f.params.toList s.vars apart W args.toList ds gs before) (hs : s.fn H (ds ++ gs) = { results := [.lit (.bool true)], args := ds }) (hk : Keeps [] W W') :
    s.post enc P f apart fresh false false W args (.bool true) W' := by
  have hlt := hW.lt
  have hW0 := hW
  obtain ⟨p, q, hA, hV, rfl, hfz, hnd⟩ := hW
  rw [hv] at hV
  obtain ⟨rfl, rfl⟩ := trodVars_none hV
  have hbl := hk.below
  refine ⟨ds, [], p ++ [], [], p, [], hW0, ?_, ?_, ?_, ?_, fun h => by cases h⟩
  · rw [hrt, hs]
    exact trodAll_mk1 (shut_bool hb true)
  · rw [hs]
    exact qaJ hl hbl hts hA (fun x hx => hlt x (by simpa using hx)) (fun x hx => by simpa using hlt x (by simpa using hx))
  · rw [hv, hs]
    trivial
  · exact hbl.frame _
end SX
namespace SX
open Go
section hp
variable {M0 : List Nat} {w0 w : World} {B : List BlkD} {R : List RowD} {F : List (World → Prop)}
theorem Hp.permM {B' : List BlkD} {R' : List RowD} (h : Hp M0 w0 w B R F) (hb : ∀ b ∈ B', b.is w) (hr : ∀ r ∈ R', r.owns w) (hp : (muts B R).Perm (muts B' R')) : Hp M0 w0 w B' R' F :=
  { keep := h.keep, blk := hb, rows := hr, nodup := hp.nodup_iff.1 h.nodup, fresh := fun g hg => h.fresh g (hp.mem_iff.2 hg), per := fun φ hφ => (h.per φ hφ).less (fun _ hk => hp.mem_iff.2 hk) }
end hp
section
variable {P : Program} {ro : Option Nat} {n : Nat} {D : List Deferred} {M0 : List Nat} {w0 : World} {Q : Exit → Act → World → Prop} {ops : Array Oper} {rest : List Oper} {l : Env} {B : List BlkD} {R : List RowD} {F : List (World → Prop)} {ρ : Type} {m : Option ρ} {r : ρ}
variable {d : Nat} {t t' e : TypeId} {pos : String} {af : Array Edge} {gd : Option (Nat × Bool)} {agg : Bool} {z : Value} {size bytes : Nat}
end
end SX
namespace SX
open Go
theorem yq {P : Program} {w : World} {t : TypeId} {k : IntKind} {cs : Array Value} {o : Nat} {v : Value} (h : P.underlying t = some (.int k)) (hv : cs[o]? = some v) : (part t cs o).run P w = .ok v w := by
  simp [part, isAgg, run_underlying h, hv]
theorem vB {P : Program} {w : World} {t : TypeId} {f0 f1 : Field} {k0 k1 : IntKind} {a b c d : Int} (hs : P.underlying t = some (.struct #[f0, f1])) (hst : P.stoodInHeld t = false) (n0 : f0.name ≠ "_") (n1 : f1.name ≠ "_") (o0 : f0.offset = 0) (o1 : f1.offset = 1)
    (h0 : P.underlying f0.type = some (.int k0)) (h1 : P.underlying f1.type = some (.int k1)) : (Op.equal t (.agg #[.int k0 a, .int k1 b]) (.agg #[.int k0 c, .int k1 d])).run P w = .ok ((a == c) && (b == d)) w := by
  have hf : P.fieldsOf t = #[f0, f1] := by simp [Program.fieldsOf, hs]
  unfold Op.equal Op.maxDepth
  rw [run_equalIn_agg w 9999 t _ _ (by rw [hf]; exact hs) hst, hf]
  simp only [Op.eqFields, o0, o1]
  rw [if_pos n0]
  simp only [Sem.run_bind]
  rw [yq h0 (v := .int k0 a) rfl]
  simp only [Result.andThen_ok]
  rw [yq h0 (v := .int k0 c) rfl]
  simp only [Result.andThen_ok]
  rw [run_equalIn_int w 9998 _ k0 k0 a c h0]
  simp only [Result.andThen_ok]
  by_cases e : a = c
  · subst e
    simp only [beq_self_eq_true, Bool.not_true, Bool.false_eq_true, if_false]
    rw [if_pos n1]
    simp only [Sem.run_bind]
    rw [yq h1 (v := .int k1 b) rfl]
    simp only [Result.andThen_ok]
    rw [yq h1 (v := .int k1 d) rfl]
    simp only [Result.andThen_ok]
    rw [run_equalIn_int w 9998 _ k1 k1 b d h1]
    simp only [Result.andThen_ok]
    by_cases e2 : b = d
    · subst e2; simp
    · simp [e2]
  · simp [e]
class StE2 (P : Program) (t : TypeId) (k0 k1 : outParam IntKind) : Prop where
  out : ∃ f0 f1 : Field, P.underlying t = some (.struct #[f0, f1]) ∧ P.stoodInHeld t = false ∧ P.eqGuardType P.depth t = false ∧ f0.name ≠ "_" ∧ f1.name ≠ "_" ∧ f0.offset = 0 ∧ f1.offset = 1 ∧ P.underlying f0.type = some (.int k0) ∧ P.underlying f1.type = some (.int k1)
section
variable {P : Program} {ro : Option Nat} {n : Nat} {D : List Deferred} {M0 : List Nat} {w0 : World} {Q : Exit → Act → World → Prop} {ops : Array Oper} {rest : List Oper} {l : Env} {B : List BlkD} {R : List RowD} {F : List (World → Prop)} {ρ : Type} {m : Option ρ} {r : ρ}
variable {d : Nat} {t xt yt : TypeId} {pos : String} {af : Array Edge} {gd : Option (Nat × Bool)}
theorem qgv {x y : Operand} {k0 k1 : IntKind} {a b a' b' : Int} (hw : wants ops l ⟨some d, .binOp .eql xt x y yt, t, pos, af, gd⟩ = some true) (hx : ev l x = some (.agg #[.int k0 a, .int k1 b])) (hy : ev l y = some (.agg #[.int k0 a', .int k1 b'])) (hE : StE2 P xt k0 k1) (hd : Nat.blt d n = true)
    (h : SXO P ro n D M0 w0 Q ops rest ((d, .bool ((a == a') && (b == b'))) :: l) B R F m r) : SXO P ro n D M0 w0 Q ops (⟨some d, .binOp .eql xt x y yt, t, pos, af, gd⟩ :: rest) l B R F m r :=
  qW _ hw rfl hd (fun ac w hf _ => by
    obtain ⟨f0, f1, hs, hst, hg, n0, n1, o0, o1, u0, u1⟩ := hE.out
    have h1 := hf.ev hx
    have h2 := hf.ev hy
    have he := vB (w := w) (a := a) (b := b) (c := a') (d := b') hs hst n0 n1 o0 o1 u0 u1
    generalize ac.eval = ε at h1 h2 ⊢
    simp [execOp, h1, h2, run_eqGuard_agg, hg, binOp, he]) h
theorem qgz {x y : Operand} {k0 k1 : IntKind} {a b a' b' : Int} (hw : wants ops l ⟨some d, .binOp .neq xt x y yt, t, pos, af, gd⟩ = some true) (hx : ev l x = some (.agg #[.int k0 a, .int k1 b])) (hy : ev l y = some (.agg #[.int k0 a', .int k1 b'])) (hE : StE2 P xt k0 k1) (hd : Nat.blt d n = true)
    (h : SXO P ro n D M0 w0 Q ops rest ((d, .bool (!((a == a') && (b == b')))) :: l) B R F m r) : SXO P ro n D M0 w0 Q ops (⟨some d, .binOp .neq xt x y yt, t, pos, af, gd⟩ :: rest) l B R F m r :=
  qW _ hw rfl hd (fun ac w hf _ => by
    obtain ⟨f0, f1, hs, hst, hg, n0, n1, o0, o1, u0, u1⟩ := hE.out
    have h1 := hf.ev hx
    have h2 := hf.ev hy
    have he := vB (w := w) (a := a) (b := b) (c := a') (d := b') hs hst n0 n1 o0 o1 u0 u1
    generalize ac.eval = ε at h1 h2 ⊢
    simp [execOp, h1, h2, run_eqGuard_agg, hg, binOp, he]) h
variable {agg : Bool} {z : Value} {size bytes : Nat} {t' : TypeId}
theorem qk.part {b o off k : Nat} {cs : List Value} {w : World} (h : qk b o cs w) : qk b (o + off) ((cs.drop off).take k) w := by
  intro j u hj
  have hlt : j < k := by have := (List.getElem?_eq_some_iff.1 hj).1; simp at this; omega
  rw [List.getElem?_take_of_lt hlt, List.getElem?_drop] at hj
  rw [Nat.add_assoc]
  exact h _ _ hj
theorem qcl {x : Operand} {j b o off : Nat} {cs : List Value} {V : Value} (hw : wants ops l ⟨some d, .load t' x, t, pos, af, gd⟩ = some true) (hx : ev l x = some (.pointer (some ⟨b, o + off, none⟩))) (hT : TyF P t' agg z size bytes)
    (hF : F[j]? = some (qk b o cs)) (hl : ((cs.drop off).take size).length = size) (hs : agg = false → size = 1) (hV : (if agg then .agg ((cs.drop off).take size).toArray else ((cs.drop off).take size).getD 0 undef) = V) (hd : Nat.blt d n = true)
    (h : SXO P ro n D M0 w0 Q ops rest ((d, V) :: l) B R F m r) : SXO P ro n D M0 w0 Q ops (⟨some d, .load t' x, t, pos, af, gd⟩ :: rest) l B R F m r :=
  qW V hw rfl hd (fun a w hf hp => by
    have h1 := hf.ev hx
    have hc : qk b o cs w := (hp.per _ (List.mem_of_getElem? hF)).here
    have hr := kH hT hc.part hl hV.symm hs
    generalize a.eval = ε at h1 ⊢
    simp [execOp, h1, Instr.loadAt, Instr.sureAddr, hr]) h
theorem qc5 {d : Option Nat} {x : Operand} {j b o off : Nat} {cs : List Value} {V : Value} (hx : ev l x = some (.pointer (some ⟨b, o + off, none⟩))) (hT : TyF P t' agg z size bytes)
    (hF : F[j]? = some (qk b o cs)) (hl : ((cs.drop off).take size).length = size) (hs : agg = false → size = 1) (hV : (if agg then .agg ((cs.drop off).take size).toArray else ((cs.drop off).take size).getD 0 undef) = V) :
    Yv P l B F ⟨d, .load t' x, t, pos, af, gd⟩ V := fun n D a w hf hp => by
  have h1 := hf.ev hx
  have hc : qk b o cs w := hp.2 _ (List.mem_of_getElem? hF)
  have hr := kH hT hc.part hl hV.symm hs
  generalize a.eval = ε at h1 ⊢
  simp [execOp, h1, Instr.loadAt, Instr.sureAddr, hr]
theorem qfj {d : Option Nat} {x y : Operand} {k0 k1 : IntKind} {a b a' b' : Int} (hx : ev l x = some (.agg #[.int k0 a, .int k1 b])) (hy : ev l y = some (.agg #[.int k0 a', .int k1 b'])) (hE : StE2 P xt k0 k1) :
    Yv P l B F ⟨d, .binOp .eql xt x y yt, t, pos, af, gd⟩ (.bool ((a == a') && (b == b'))) := fun n D ac w hf _ => by
  obtain ⟨f0, f1, hs, hst, hg, n0, n1, o0, o1, u0, u1⟩ := hE.out
  have h1 := hf.ev hx
  have h2 := hf.ev hy
  have he := vB (w := w) (a := a) (b := b) (c := a') (d := b') hs hst n0 n1 o0 o1 u0 u1
  generalize ac.eval = ε at h1 h2 ⊢
  simp [execOp, h1, h2, run_eqGuard_agg, hg, binOp, he]
theorem qfk {d : Option Nat} {x y : Operand} {k0 k1 : IntKind} {a b a' b' : Int} (hx : ev l x = some (.agg #[.int k0 a, .int k1 b])) (hy : ev l y = some (.agg #[.int k0 a', .int k1 b'])) (hE : StE2 P xt k0 k1) :
    Yv P l B F ⟨d, .binOp .neq xt x y yt, t, pos, af, gd⟩ (.bool (!((a == a') && (b == b')))) := fun n D ac w hf _ => by
  obtain ⟨f0, f1, hs, hst, hg, n0, n1, o0, o1, u0, u1⟩ := hE.out
  have h1 := hf.ev hx
  have h2 := hf.ev hy
  have he := vB (w := w) (a := a) (b := b) (c := a') (d := b') hs hst n0 n1 o0 o1 u0 u1
  generalize ac.eval = ε at h1 h2 ⊢
  simp [execOp, h1, h2, run_eqGuard_agg, hg, binOp, he]
end
end SX
namespace SX
open Go
def SlN {α γ : Type} (enc : α × γ → List Value) (inn : α × γ → List (World → Prop)) (size : Nat) (v : Value) (xs : List α) (gs : List γ) (w : World) : Prop :=
  gs.length = xs.length ∧ Sl enc size v (xs.zip gs) w ∧ ∀ p ∈ xs.zip gs, ∀ φ ∈ inn p, φ w
theorem qhC {α γ : Type} : ∀ {xs : List α} {gs : List γ} {i : Nat} {p : α × γ}, (xs.zip gs)[i]? = some p → xs[i]? = some p.1 := by
  intro xs gs i p h
  rw [List.getElem?_zip_eq_some] at h
  exact h.1
theorem j8 {α γ : Type} {xs : List α} {gs : List γ} (h : gs.length = xs.length) : (xs.zip gs).length = xs.length := by
  rw [List.length_zip, h, Nat.min_self]
theorem qe7 {α γ ρ : Type} {xs : List α} {gs : List γ} (h : gs.length = xs.length) (i : Int) (k : α → Option ρ) : (idx (xs.zip gs) i).bind (fun p => k p.1) = (idx xs i).bind k := by
  unfold idx
  split
  · cases hx : xs[i.toNat]? with
    | none =>
      have h1 : xs.length ≤ i.toNat := List.getElem?_eq_none_iff.1 hx
      have h2 : (xs.zip gs)[i.toNat]? = none := List.getElem?_eq_none (by rw [j8 h]; exact h1)
      rw [h2]; rfl
    | some y =>
      have h1 := (List.getElem?_eq_some_iff.1 hx).1
      have h2 : (xs.zip gs)[i.toNat]? = some (y, gs[i.toNat]'(by omega)) := by
        rw [List.getElem?_zip_eq_some]
        exact ⟨hx, List.getElem?_eq_getElem (by omega)⟩
      rw [h2]; rfl
  · rfl
theorem qa6 {α γ : Type} {xs : List α} {gs : List γ} {i : Int} {p : α × γ} (h : idx (xs.zip gs) i = some p) : idx xs i = some p.1 := by
  unfold idx at h ⊢
  split
  · rename_i h0
    rw [if_pos h0] at h
    exact qhC h
  · rename_i h0
    rw [if_neg h0] at h
    simp at h
section hp
variable {M0 : List Nat} {w0 w : World} {B : List BlkD} {R : List RowD} {F : List (World → Prop)}
theorem Hp.nestLen {α γ : Type} {enc : α × γ → List Value} {inn : α × γ → List (World → Prop)} {size j : Nat} {v : Value} {xs : List α} {gs : List γ} (h : Hp M0 w0 w B R F) (hF : F[j]? = some (SlN enc inn size v xs gs)) : gs.length = xs.length :=
  (h.per _ (List.mem_of_getElem? hF)).here.1
theorem Hp.nestIn {α γ : Type} {enc : α × γ → List Value} {inn : α × γ → List (World → Prop)} {size j : Nat} {v : Value} {xs : List α} {gs : List γ} {p : α × γ} (h : Hp M0 w0 w B R F) (hF : F[j]? = some (SlN enc inn size v xs gs)) (hp : p ∈ xs.zip gs) : ∀ φ ∈ inn p, Nec w (muts B R) φ :=
  fun φ hφ w' hk => (h.per _ (List.mem_of_getElem? hF) w' hk).2.2 p hp φ hφ
theorem Hp.nestSl {α γ : Type} {enc : α × γ → List Value} {inn : α × γ → List (World → Prop)} {size j : Nat} {v : Value} {xs : List α} {gs : List γ} (h : Hp M0 w0 w B R F) (hF : F[j]? = some (SlN enc inn size v xs gs)) : Nec w (muts B R) (Sl enc size v (xs.zip gs)) :=
  fun w' hk => (h.per _ (List.mem_of_getElem? hF) w' hk).2.1
theorem Hp.dropSecond {φ ψ : World → Prop} {L : List (World → Prop)} (h : Hp M0 w0 w B R (φ :: ψ :: F)) (hL : ∀ χ ∈ L, Nec w (muts B R) χ) : Hp M0 w0 w B R (φ :: (L ++ F)) :=
  { h with per := fun χ hχ => (List.mem_cons.1 hχ).elim (fun e => e ▸ h.per _ (by simp)) fun hχ => (List.mem_append.1 hχ).elim (fun hχ => hL _ hχ) fun hχ => h.per _ (by simp [hχ]) }
end hp
section rules
variable {P : Program} {ro : Option Nat} {n : Nat} {D : List Deferred} {M0 : List Nat} {w0 : World} {Q : Exit → Act → World → Prop} {ρ : Type}
variable {ops : Array Oper} {rest : List Oper} {l : Env} {B : List BlkD} {R : List RowD} {F : List (World → Prop)} {m : Option ρ} {r : ρ}
variable {d : Nat} {t t' e : TypeId} {pos : String} {af : Array Edge} {gd : Option (Nat × Bool)} {agg : Bool} {z : Value} {size bytes : Nat}
theorem qck {α γ : Type} {enc : α × γ → List Value} {inn : α × γ → List (World → Prop)} {xs : List α} {gs : List γ} {k : α → Option ρ} {x ix : Operand} {ki : IntKind} {i : Int} {v : Value} {j : Nat} (henc : EncOk enc size) (hs0 : size ≠ 0)
    (hw : wants ops l ⟨some d, .indexAddr t' x ix, t, pos, af, gd⟩ = some true) (ht : P.underlying t' = some (.slice e)) (hT : TyF P e agg z size bytes) (hx : ev l x = some v) (hi : ev l ix = some (.int ki i))
    (hF : F[j]? = some (SlN enc inn size v xs gs)) (hd : Nat.blt d n = true)
    (h : ∀ y, idx xs i = some y → ∀ q b o, SXO P ro n D M0 w0 Q ops rest ((d, .pointer (some ⟨b, o, none⟩)) :: l) B R (qk b o (enc (y, q)) :: (inn (y, q) ++ F)) (k y) r) :
    SXO P ro n D M0 w0 Q ops (⟨some d, .indexAddr t' x ix, t, pos, af, gd⟩ :: rest) l B R F ((idx xs i).bind k) r := by
  intro hm a w hf hp
  have hl := hp.nestLen hF
  have hs := hp.nestSl hF
  rw [← qe7 hl] at hm
  refine vq (F := Sl enc size v (xs.zip gs) :: F) (j := 0) henc hs0 hw ht hT hx hi rfl hd (fun p hq b o => ?_) hm a w hf (hp.addFact hs)
  intro hm' a' w' hf' hp'
  have hmem : p ∈ xs.zip gs := by
    obtain ⟨_, _, h3⟩ := qr hq
    exact List.mem_of_getElem? h3
  have hF' : (qk b o (enc p) :: Sl enc size v (xs.zip gs) :: F)[j + 2]? = some (SlN enc inn size v xs gs) := by simpa using hF
  exact h p.1 (qa6 hq) p.2 b o hm' a' w' hf' (hp'.dropSecond (hp'.nestIn hF' hmem))
theorem qbc {x : Code} {α γ : Type} {enc : α × γ → List Value} {inn : α × γ → List (World → Prop)} {xs : List α} {gs : List γ} {k : α → Option ρ} {i : Int} {ao : Option Addr} {c j : Nat} (henc : EncOk enc size) (hs0 : size ≠ 0)
    (hF : F[j]? = some (SlN enc inn size (.slice ao xs.length c) xs gs))
    (h : ∀ y, idx xs i = some y → ∀ q b o, ao = some ⟨b, o, none⟩ → SXC P ro n D M0 w0 Q x l B R (qk b (o + i.toNat * size) (enc (y, q)) :: (inn (y, q) ++ F)) (k y) r) :
    SXC P ro n D M0 w0 Q x l B R F ((idx xs i).bind k) r := by
  intro hm a w hf hp
  have hl := hp.nestLen hF
  have hs := hp.nestSl hF
  rw [← qe7 hl] at hm
  rw [← j8 hl] at hs
  refine va (F := Sl enc size (.slice ao (xs.zip gs).length c) (xs.zip gs) :: F) (j := 0) henc hs0 rfl (fun p hq b o ha => ?_) hm a w hf (hp.addFact hs)
  intro hm' a' w' hf' hp'
  have hmem : p ∈ xs.zip gs := by
    obtain ⟨_, _, h3⟩ := qr hq
    exact List.mem_of_getElem? h3
  have hF' : (qk b (o + i.toNat * size) (enc p) :: Sl enc size (.slice ao (xs.zip gs).length c) (xs.zip gs) :: F)[j + 2]? = some (SlN enc inn size (.slice ao xs.length c) xs gs) := by simpa using hF
  exact h p.1 (qa6 hq) p.2 b o ha hm' a' w' hf' (hp'.dropSecond (hp'.nestIn hF' hmem))
theorem jW {α γ : Type} {enc : α × γ → List Value} {inn : α × γ → List (World → Prop)} {v : Value} (xs : List α) (gs : List γ) (i : Nat) (hl : gs.length = xs.length) (hR : R[i]? = some (Ro enc e size v (xs.zip gs)))
    (hin : ∀ φ ∈ (xs.zip gs).flatMap inn, φ ∈ F) (h : SXO P ro n D M0 w0 Q ops rest l B (R.eraseIdx i) (SlN enc inn size v xs gs :: F) m r) : SXO P ro n D M0 w0 Q ops rest l B R F m r := by
  intro hm a w hf hp
  have hp2 := hp.freeze hR
  have hp1 : Hp M0 w0 w B (R.eraseIdx i) F := hp2.weaken (List.Sublist.refl _) (List.Sublist.refl _) (fun φ h => List.mem_cons_of_mem _ h)
  refine h hm a w hf (hp1.addFact fun w' hk => ⟨hl, hp2.per _ (List.mem_cons_self ..) w' hk, fun p hp φ hφ => hp1.per φ (hin φ (List.mem_flatMap.2 ⟨p, hp, hφ⟩)) w' hk⟩)
theorem qgt {α : Type} {enc : α → List Value} {xs : List α} {k : List α → Option ρ} {x : Operand} {hi : Option Operand} {hj : Int} {ao : Option Addr} {c i : Nat} (henc : EncOk enc size)
    (hw : wants ops l ⟨some d, .slice t' x none hi none, t, pos, af, gd⟩ = some true) (ht : P.underlying t' = some (.slice e)) (hT : TyF P e agg z size bytes) (hx : ev l x = some (.slice ao xs.length c))
    (hhi : evOpt l hi (xs.length : Int) = some hj) (hR : R[i]? = some (Ro enc e size (.slice ao xs.length c) xs)) (hd : Nat.blt d n = true)
    (h : ∀ ys, sub xs 0 hj = some ys → SXO P ro n D M0 w0 Q ops rest ((d, .slice ao ys.length c) :: l) B (Ro enc e size (.slice ao ys.length c) ys :: R.eraseIdx i) F (k ys) r) :
    SXO P ro n D M0 w0 Q ops (⟨some d, .slice t' x none hi none, t, pos, af, gd⟩ :: rest) l B R F ((sub xs 0 hj).bind k) r := by
  refine kp hw fun hm a w hf hp => ?_
  cases hq : sub xs 0 hj with
  | none => rw [hq] at hm; simp at hm
  | some ys =>
    rw [hq] at hm
    have hm' : k ys = some r := by simpa using hm
    obtain ⟨_, b2, b3, hys⟩ := qcg hq
    obtain ⟨H, rfl⟩ := Int.eq_ofNat_of_zero_le b2
    have b3' : H ≤ xs.length := by omega
    have hys' : ys = xs.take H := by rw [hys]; simp
    have hyl : ys.length = H := by rw [hys', List.length_take]; omega
    have hown := hp.row _ (List.mem_of_getElem? hR)
    have hcap : xs.length ≤ c := by
      rcases hown.2 with ⟨h5, h6⟩ | ⟨g, cap, cur, h5, _, hgg, hnc, _⟩
      · have h6' : xs.length = 0 := h6
        omega
      · have h5' : Value.slice ao xs.length c = .slice (some ⟨g, 0, none⟩) xs.length cap := h5
        simp only [Value.slice.injEq, true_and] at h5'
        have : xs.length ≤ cap := hnc
        omega
    refine ⟨.slice ao H c, w, ?_, ?_⟩
    · have h1 := hf.ev hx
      have e2 := v7 hf hhi
      have hb0 : (0 : Int) ≤ (H : Int) := by omega
      have hb1 : (H : Int) ≤ (c : Int) := by omega
      have hn1 : H ≤ c := by omega
      have hb9 : (if c = 0 then ao else ao.map (·.add (0 * size))) = ao := by
        split
        · rfl
        · rcases hown.2 with ⟨h5, h6⟩ | ⟨g, cap, cur, h5, _, hgg, hnc, _⟩
          · have h5' : Value.slice ao xs.length c = .slice none 0 0 := h5
            simp only [Value.slice.injEq] at h5'
            rw [h5'.1]; rfl
          · have h5' : Value.slice ao xs.length c = .slice (some ⟨g, 0, none⟩) xs.length cap := h5
            simp only [Value.slice.injEq, true_and] at h5'
            rw [h5'.1]
            simp [Addr.add_lit]
      generalize hε : a.eval = ε at h1 e2 ⊢
      rcases e2 with ⟨k2, e2⟩ | ⟨rfl, e2⟩
      · simp [execOp, h1, e2, Instr.sliceAt, Instr.slice, Instr.sliceBounds, Instr.sliceBound, asIntOf, run_underlying ht, hT.run_size, hb0, hn1]
        first | exact hb9 | (simpa using hb9) | skip
      · have : H = xs.length := by omega
        subst this
        simp [execOp, h1, Instr.sliceAt, Instr.slice, Instr.sliceBounds, run_underlying ht, hT.run_size]
        first | exact hb9 | (simpa using hb9) | skip
    · have hz := h ys hq
      rw [hyl] at hz
      refine hz hm' _ _ (hf.put hd _) (hp.swapRow hR ?_ (.inl ⟨by cases ao <;> rfl, Keeps.refl _ _⟩))
      have hfl := zn henc ys
      refine ⟨by show (ys.flatMap enc).length = ys.length * size; exact hfl, ?_⟩
      rcases hown.2 with ⟨h5, h6⟩ | ⟨g, cap, cur, h5, hb, hgg, hnc, hcm, hcs, htake⟩
      · have h5' : Value.slice ao xs.length c = .slice none 0 0 := h5
        simp only [Value.slice.injEq] at h5'
        have h6' : xs.length = 0 := h6
        left
        show Value.slice ao H c = .slice none 0 0 ∧ ys.length = 0
        obtain ⟨rfl, _, rfl⟩ := h5'
        have : H = 0 := by omega
        subst this
        exact ⟨rfl, hyl⟩
      · have h5' : Value.slice ao xs.length c = .slice (some ⟨g, 0, none⟩) xs.length cap := h5
        simp only [Value.slice.injEq, true_and] at h5'
        obtain ⟨rfl, rfl⟩ := h5'
        right
        refine ⟨g, c, cur, ?_, hb, hgg, ?_, hcm, hcs, ?_⟩
        · show Value.slice (some ⟨g, 0, none⟩) H c = .slice (some ⟨g, 0, none⟩) ys.length c
          rw [hyl]
        · show ys.length ≤ c
          omega
        · show cur.toList.take (ys.length * size) = ys.flatMap enc
          have ht' : cur.toList.take (xs.length * size) = xs.flatMap enc := htake
          rw [hyl, hys', j2 henc, ← ht', List.take_take]
          congr 1
          have := Nat.mul_le_mul_right size b3'
          omega
end rules
section
variable {P : Program}
end
def appz {α : Type} (lim : Nat) (xs : List α) (y : α) (n : Int) : Option (List α) := if 0 ≤ n ∧ xs.length + n.toNat ≤ lim then some (xs ++ List.replicate n.toNat y) else none
section rules
variable {P : Program} {ro : Option Nat} {n : Nat} {D : List Deferred} {M0 : List Nat} {w0 : World} {Q : Exit → Act → World → Prop} {ρ : Type}
variable {ops : Array Oper} {rest : List Oper} {l : Env} {B : List BlkD} {R : List RowD} {F : List (World → Prop)} {m : Option ρ} {r : ρ}
variable {d : Nat} {t t' e : TypeId} {pos : String} {af : Array Edge} {gd : Option (Nat × Bool)} {agg : Bool} {z : Value} {size bytes : Nat}
end rules
end SX
namespace SX
open Go
def outs {β : Type} (hs : List Nat) : Nat → List β → List β
  | _, [] => []
  | k, x :: t => if k ∈ hs then outs hs (k + 1) t else x :: outs hs (k + 1) t
theorem qa9 {β : Type} : ∀ (k : Nat) (l : List β), outs [] k l = l
  | _, [] => rfl
  | k, x :: t => by
    show (if k ∈ [] then outs [] (k + 1) t else x :: outs [] (k + 1) t) = _
    rw [if_neg (by simp), qa9 (k + 1) t]
theorem qcU {β : Type} {hs : List Nat} {j : Nat} : ∀ (k : Nat) (l : List β), j < k → outs (j :: hs) k l = outs hs k l
  | _, [], _ => rfl
  | k, x :: t, h => by
    show (if k ∈ j :: hs then outs (j :: hs) (k + 1) t else x :: outs (j :: hs) (k + 1) t) = if k ∈ hs then outs hs (k + 1) t else x :: outs hs (k + 1) t
    rw [qcU (k + 1) t (by omega)]
    have : k ∈ j :: hs ↔ k ∈ hs := by
      constructor
      · intro h1
        rcases List.mem_cons.1 h1 with h1 | h1
        · omega
        · exact h1
      · exact List.mem_cons_of_mem _
    simp only [this]
theorem qbk {β : Type} {hs : List Nat} {p : β} : ∀ (k j : Nat) (l : List β), l[j]? = some p → k + j ∉ hs → (outs hs k l).Perm (p :: outs ((k + j) :: hs) k l)
  | _, _, [], h, _ => by simp at h
  | k, 0, x :: t, h, hn => by
    simp only [List.getElem?_cons_zero, Option.some.injEq] at h
    subst h
    show (if k ∈ hs then outs hs (k + 1) t else x :: outs hs (k + 1) t).Perm (x :: if k ∈ (k + 0) :: hs then outs ((k + 0) :: hs) (k + 1) t else x :: outs ((k + 0) :: hs) (k + 1) t)
    rw [if_neg (by simpa using hn), if_pos (by simp), qcU (k + 1) t (by omega)]
  | k, j + 1, x :: t, h, hn => by
    have h' : t[j]? = some p := by simpa using h
    have hn' : k + 1 + j ∉ hs := by rwa [show k + 1 + j = k + (j + 1) from by omega]
    have ih := qbk (hs := hs) (k + 1) j t h' hn'
    rw [show k + 1 + j = k + (j + 1) from by omega] at ih
    show (if k ∈ hs then outs hs (k + 1) t else x :: outs hs (k + 1) t).Perm (p :: if k ∈ (k + (j + 1)) :: hs then outs ((k + (j + 1)) :: hs) (k + 1) t else x :: outs ((k + (j + 1)) :: hs) (k + 1) t)
    by_cases hk : k ∈ hs
    · rw [if_pos hk, if_pos (List.mem_cons_of_mem _ hk)]; exact ih
    · rw [if_neg hk, if_neg (by simp only [List.mem_cons, not_or]; exact ⟨by omega, hk⟩)]
      exact (ih.cons x).trans (List.Perm.swap ..)
theorem qd9 {β : Type} {hs : List Nat} {p : β} : ∀ (k j : Nat) (l : List β), k + j ∈ hs → outs hs k (l.set j p) = outs hs k l
  | _, _, [], _ => by simp
  | k, 0, x :: t, h => by
    have h' : k ∈ hs := h
    show (if k ∈ hs then outs hs (k + 1) t else p :: outs hs (k + 1) t) = if k ∈ hs then outs hs (k + 1) t else x :: outs hs (k + 1) t
    rw [if_pos h', if_pos h']
  | k, j + 1, x :: t, h => by
    show (if k ∈ hs then outs hs (k + 1) (t.set j p) else x :: outs hs (k + 1) (t.set j p)) = if k ∈ hs then outs hs (k + 1) t else x :: outs hs (k + 1) t
    rw [qd9 (k + 1) j t (by rwa [show k + 1 + j = k + (j + 1) from by omega])]
theorem qb5 {β : Type} {hs hs' : List Nat} (h : ∀ x, x ∈ hs ↔ x ∈ hs') : ∀ (k : Nat) (l : List β), outs hs k l = outs hs' k l
  | _, [] => rfl
  | k, x :: t => by
    show (if k ∈ hs then outs hs (k + 1) t else x :: outs hs (k + 1) t) = if k ∈ hs' then outs hs' (k + 1) t else x :: outs hs' (k + 1) t
    rw [qb5 h (k + 1) t]
    simp only [h]
theorem qeC {hs : List Nat} {k j : Nat} (hk : hs[k]? = some j) (hn : hs.Nodup) : j ∉ hs.eraseIdx k ∧ (hs.eraseIdx k).Nodup ∧ ∀ x, x ∈ j :: hs.eraseIdx k ↔ x ∈ hs := by
  obtain ⟨A, C, rfl, he⟩ := jS hk
  rw [he]
  have hp : (A ++ j :: C).Perm (j :: (A ++ C)) := List.perm_middle
  have := hp.nodup_iff.1 hn
  obtain ⟨h1, h2⟩ := List.nodup_cons.1 this
  exact ⟨h1, h2, fun x => hp.symm.mem_iff⟩
def RowF.row (f : RowF) : RowD := ⟨f.v, f.e, f.size, f.n, f.cs⟩
def RowF.cells (f : RowF) : World → Prop := Cells f.v f.n f.size f.cs
def FoR {α : Type} (enc : α → List Value) (e : TypeId) (size : Nat) (v : Value) (xs : List α) : RowF := ⟨v, e, size, xs.length, xs.flatMap enc⟩
def guardF (b : Bool) : RowF := ⟨.slice none 0 0, 0, 1, 0, if b then [] else [.bool true]⟩
theorem v8 {b : Bool} {w : World} : (guardF b).own w ↔ b = true := by
  cases b
  · simp [guardF, RowF.own, World.ownsRow]
  · simp [guardF, RowF.own, World.ownsRow]
def RoN {α γ : Type} (enc : α × γ → List Value) (rin : α × γ → List RowF) (e : TypeId) (size : Nat) (v : Value) (xs : List α) (gs : List γ) (hs : List Nat) : RowD :=
  @RowD.mk v e size xs.length ((xs.zip gs).flatMap enc) ⟨guardF (decide (gs.length = xs.length ∧ hs.Nodup)) :: (outs hs 0 (xs.zip gs)).flatMap rin⟩
def InR {β : Type} (rin : β → List RowF) (ps : List β) (hs : List Nat) : RowD := @RowD.mk (.slice none 0 0) 0 1 0 [] ⟨(outs hs 0 ps).flatMap rin⟩
section hp
variable {M0 : List Nat} {w0 w : World} {B : List BlkD} {R : List RowD} {F : List (World → Prop)}
theorem Hp.rowsP {R' : List RowD} (h : Hp M0 w0 w B R F) (hr : ∀ r ∈ R', r.owns w) (hp : (R.flatMap RowD.blocks).Perm (R'.flatMap RowD.blocks)) : Hp M0 w0 w B R' F :=
  h.permM h.blk hr (hp.append_left _)
theorem qbs {i : Nat} {r : RowD} (hi : R[i]? = some r) : R.Perm (r :: R.eraseIdx i) := by
  obtain ⟨A, C, rfl, he⟩ := jS hi
  rw [he]
  exact List.perm_middle
theorem Hp.front {i : Nat} {r : RowD} (h : Hp M0 w0 w B R F) (hi : R[i]? = some r) : Hp M0 w0 w B (r :: R.eraseIdx i) F := h.perm (List.Perm.refl _) (qbs hi)
theorem qbx (L : List RowF) : (L.map RowF.row).flatMap RowD.blocks = L.filterMap (·.v.ownBlock) := by
  induction L with
  | nil => rfl
  | cons f L ih =>
    rw [List.map_cons, List.flatMap_cons, ih, RowD.blocks_one (r := f.row) rfl, List.filterMap_cons]
    show f.v.ownBlock.toList ++ _ = _
    cases f.v.ownBlock <;> rfl
section nest
variable {α γ : Type} {enc : α × γ → List Value} {rin : α × γ → List RowF} {e : TypeId} {size i : Nat} {v : Value} {xs : List α} {gs : List γ} {hs : List Nat}
theorem Hp.nestOk (h : Hp M0 w0 w B R F) (hR : R[i]? = some (RoN enc rin e size v xs gs hs)) : gs.length = xs.length ∧ hs.Nodup := by
  have := (h.rows _ (List.mem_of_getElem? hR)).2 (guardF (decide (gs.length = xs.length ∧ hs.Nodup))) (List.mem_cons_self ..)
  simpa using v8.1 this
theorem ya : (RoN enc rin e size v xs gs hs).blocks = v.ownBlock.toList ++ ((outs hs 0 (xs.zip gs)).flatMap rin).filterMap (·.v.ownBlock) := rfl
theorem qbl {β : Type} {enc : β → List Value} {ps : List β} : (Ro enc e size v ps).blocks = v.ownBlock.toList := RowD.blocks_one rfl
theorem qbZ {β : Type} {rin : β → List RowF} {ps : List β} : (InR rin ps hs).blocks = ((outs hs 0 ps).flatMap rin).filterMap (·.v.ownBlock) := rfl
theorem qgQ (ps : List (α × γ)) : (ps.map (·.1)).zip (ps.map (·.2)) = ps := by
  induction ps with
  | nil => rfl
  | cons p ps ih => rw [List.map_cons, List.map_cons, List.zip_cons_cons, ih]
theorem Hp.unN (h : Hp M0 w0 w B R F) (hR : R[i]? = some (RoN enc rin e size v xs gs hs)) :
    Hp M0 w0 w B (Ro enc e size v (xs.zip gs) :: InR rin (xs.zip gs) hs :: R.eraseIdx i) F := by
  obtain ⟨hl, hn⟩ := h.nestOk hR
  have h1 := h.front hR
  have h2 := h1.rows _ (List.mem_cons_self ..)
  refine h1.rowsP (fun r hr => ?_) ?_
  · rcases List.mem_cons.1 hr with rfl | hr
    · refine RowD.owns_one ?_ rfl
      have h3 : w.ownsRow 0 e size v xs.length ((xs.zip gs).flatMap enc) := h2.1
      show w.ownsRow 0 e size v (xs.zip gs).length ((xs.zip gs).flatMap enc)
      rw [j8 hl]; exact h3
    · rcases List.mem_cons.1 hr with rfl | hr
      · exact ⟨⟨rfl, .inl ⟨rfl, rfl⟩⟩, fun f hf => h2.2 f (List.mem_cons_of_mem _ hf)⟩
      · exact h1.rows r (List.mem_cons_of_mem _ hr)
  · rw [List.flatMap_cons, List.flatMap_cons, List.flatMap_cons, ← List.append_assoc, qbl, qbZ, ya]
theorem Hp.reN {ps : List (α × γ)} (h : Hp M0 w0 w B (Ro enc e size v ps :: InR rin ps hs :: R) F) (hn : hs.Nodup) : Hp M0 w0 w B (RoN enc rin e size v (ps.map (·.1)) (ps.map (·.2)) hs :: R) F := by
  have hz := qgQ ps
  have h1 := h.rows _ (List.mem_cons_self ..)
  have h2 := h.rows (InR rin ps hs) (by simp)
  refine h.rowsP (fun r hr => ?_) ?_
  · rcases List.mem_cons.1 hr with rfl | hr
    · refine ⟨?_, fun f hf => ?_⟩
      · have h3 : w.ownsRow 0 e size v ps.length (ps.flatMap enc) := h1.1
        show w.ownsRow 0 e size v (ps.map (·.1)).length (((ps.map (·.1)).zip (ps.map (·.2))).flatMap enc)
        rw [hz, List.length_map]; exact h3
      · rcases List.mem_cons.1 hf with rfl | hf
        · exact v8.2 (by simp [hn])
        · rw [hz] at hf
          exact h2.2 f hf
    · exact h.rows r (by simp [hr])
  · rw [List.flatMap_cons, List.flatMap_cons, List.flatMap_cons, ya, hz, ← List.append_assoc, qbl, qbZ]
theorem Hp.openN {j : Nat} {p : α × γ} (h : Hp M0 w0 w B R F) (hR : R[i]? = some (RoN enc rin e size v xs gs hs)) (hj : (xs.zip gs)[j]? = some p) (hn : j ∉ hs) :
    Hp M0 w0 w B ((rin p).map RowF.row ++ RoN enc rin e size v xs gs (j :: hs) :: R.eraseIdx i) F := by
  obtain ⟨hl, hnd⟩ := h.nestOk hR
  have h1 := h.front hR
  have h2 := h1.rows _ (List.mem_cons_self ..)
  have ho := qbk (hs := hs) 0 j (xs.zip gs) hj (by rwa [Nat.zero_add])
  rw [Nat.zero_add] at ho
  have hof := ho.flatMap_right rin
  rw [List.flatMap_cons] at hof
  have hin : ∀ f ∈ (outs hs 0 (xs.zip gs)).flatMap rin, f.own w := fun f hf => h2.2 f (List.mem_cons_of_mem _ hf)
  refine h1.rowsP (fun r hr => ?_) ?_
  · rcases List.mem_append.1 hr with hr | hr
    · obtain ⟨f, hf, rfl⟩ := List.mem_map.1 hr
      exact RowD.owns_one (hin f (hof.mem_iff.2 (List.mem_append.2 (.inl hf)))) rfl
    · rcases List.mem_cons.1 hr with rfl | hr
      · refine ⟨h2.1, fun f hf => ?_⟩
        rcases List.mem_cons.1 hf with rfl | hf
        · exact v8.2 (by simp [hl, hnd, hn])
        · exact hin f (hof.mem_iff.2 (List.mem_append.2 (.inr hf)))
      · exact h1.rows r (List.mem_cons_of_mem _ hr)
  · rw [List.flatMap_append, List.flatMap_cons, List.flatMap_cons, qbx, ya, ya]
    have h3 := hof.filterMap (·.v.ownBlock)
    rw [List.filterMap_append] at h3
    refine ((h3.append_left v.ownBlock.toList).append_right _).trans ?_
    rw [← List.append_assoc, ← List.append_assoc, ← List.append_assoc]
    exact (List.perm_append_comm.append_right _).append_right _
theorem Hp.closeN {j k : Nat} {p : α × γ} {R' : List RowD} (h : Hp M0 w0 w B R F) (hT : Takes R ((rin p).map RowF.row) R') (hR : R'[i]? = some (RoN enc rin e size v xs gs hs)) (hk : hs[k]? = some j) (hj : (xs.zip gs)[j]? = some p) :
    Hp M0 w0 w B (RoN enc rin e size v xs gs (hs.eraseIdx k) :: R'.eraseIdx i) F := by
  have h0 := h.perm (List.Perm.refl _) hT.perm
  have hp : ((rin p).map RowF.row ++ R').Perm ((rin p).map RowF.row ++ RoN enc rin e size v xs gs hs :: R'.eraseIdx i) := (qbs hR).append_left _
  have h1 := h0.perm (List.Perm.refl _) hp
  have hN := h1.nestOk (i := ((rin p).map RowF.row).length) (by rw [List.getElem?_append_right (Nat.le_refl _), Nat.sub_self]; rfl)
  obtain ⟨hl, hnd⟩ := hN
  obtain ⟨b1, b2, b3⟩ := qeC hk hnd
  have ho := qbk (hs := hs.eraseIdx k) 0 j (xs.zip gs) hj (by rwa [Nat.zero_add])
  rw [Nat.zero_add, qb5 b3] at ho
  have hof := ho.flatMap_right rin
  rw [List.flatMap_cons] at hof
  have h2 := h1.rows (RoN enc rin e size v xs gs hs) (by simp)
  refine h1.rowsP (fun r hr => ?_) ?_
  · rcases List.mem_cons.1 hr with rfl | hr
    · refine ⟨h2.1, fun f hf => ?_⟩
      rcases List.mem_cons.1 hf with rfl | hf
      · exact v8.2 (by simp [hl, b2])
      · rcases List.mem_append.1 (hof.mem_iff.1 hf) with hf | hf
        · exact (h1.rows f.row (List.mem_append.2 (.inl (List.mem_map.2 ⟨f, hf, rfl⟩)))).1
        · exact h2.2 f (List.mem_cons_of_mem _ hf)
    · exact h1.rows r (by simp [hr])
  · rw [List.flatMap_append, List.flatMap_cons, List.flatMap_cons, qbx, ya, ya]
    have h3 := hof.filterMap (·.v.ownBlock)
    rw [List.filterMap_append] at h3
    refine List.Perm.trans ?_ ((h3.append_left v.ownBlock.toList).append_right _).symm
    rw [← List.append_assoc, ← List.append_assoc, ← List.append_assoc]
    exact (List.perm_append_comm.append_right _).append_right _
theorem qdL {y : α} {q : γ} : ∀ (xs : List α) (gs : List γ) (j : Nat), (xs.set j y).zip (gs.set j q) = (xs.zip gs).set j (y, q)
  | [], gs, j => by simp
  | x :: xs, [], j => by simp
  | x :: xs, g :: gs, 0 => by simp
  | x :: xs, g :: gs, j + 1 => by
    rw [List.set_cons_succ, List.set_cons_succ, List.zip_cons_cons, List.zip_cons_cons, List.set_cons_succ, qdL xs gs j]
theorem Hp.nestNil (h : Hp M0 w0 w B R F) (hR : R[i]? = some (Ro enc e size v (xs.zip gs))) (hl : gs.length = xs.length) (hz : ∀ p ∈ xs.zip gs, ∀ f ∈ rin p, f.v = .slice none 0 0 ∧ f.n = 0 ∧ f.cs = []) :
    Hp M0 w0 w B (RoN enc rin e size v xs gs [] :: R.eraseIdx i) F := by
  have h1 := h.front hR
  have h2 := h1.rows _ (List.mem_cons_self ..)
  have hz' : ∀ f ∈ (xs.zip gs).flatMap rin, f.v = .slice none 0 0 ∧ f.n = 0 ∧ f.cs = [] := fun f hf => by
    obtain ⟨p, hp, hf⟩ := List.mem_flatMap.1 hf
    exact hz p hp f hf
  refine h1.rowsP (fun r hr => ?_) ?_
  · rcases List.mem_cons.1 hr with rfl | hr
    · refine ⟨?_, fun f hf => ?_⟩
      · have h3 : w.ownsRow 0 e size v (xs.zip gs).length ((xs.zip gs).flatMap enc) := h2.1
        show w.ownsRow 0 e size v xs.length ((xs.zip gs).flatMap enc)
        rw [j8 hl] at h3; exact h3
      · rcases List.mem_cons.1 hf with rfl | hf
        · exact v8.2 (by simp [hl])
        · rw [qa9] at hf
          obtain ⟨e1, e2, e3⟩ := hz' f hf
          exact ⟨by rw [e2, e3]; simp, .inl ⟨e1, e2⟩⟩
    · exact h1.rows r (List.mem_cons_of_mem _ hr)
  · rw [List.flatMap_cons, List.flatMap_cons, ya, qa9, qbl]
    have : ((xs.zip gs).flatMap rin).filterMap (·.v.ownBlock) = [] := by
      rw [List.filterMap_eq_nil_iff]
      intro f hf
      rw [(hz' f hf).1]; rfl
    rw [this, List.append_nil]
theorem zT {inn : α × γ → List (World → Prop)} (hri : ∀ p, inn p = (rin p).map RowF.cells) : ∀ w, (RoN enc rin e size v xs gs []).owns w → SlN enc inn size v xs gs w := by
  intro w h
  have hl : gs.length = xs.length := by
    have := h.2 (guardF (decide (gs.length = xs.length ∧ ([] : List Nat).Nodup))) (List.mem_cons_self ..)
    have h2 := v8.1 this
    simp only [decide_eq_true_eq] at h2
    exact h2.1
  refine ⟨hl, ?_, fun p hp φ hφ => ?_⟩
  · have h4 : w.ownsRow 0 e size v xs.length ((xs.zip gs).flatMap enc) := h.1
    show Cells v (xs.zip gs).length size ((xs.zip gs).flatMap enc) w
    rw [j8 hl]; exact zq h4
  · rw [hri] at hφ
    obtain ⟨f, hf, rfl⟩ := List.mem_map.1 hφ
    have hfm : f ∈ (outs [] 0 (xs.zip gs)).flatMap rin := by rw [qa9]; exact List.mem_flatMap.2 ⟨p, hp, hf⟩
    exact zq (h.2 f (List.mem_cons_of_mem _ hfm))
end nest
end hp
section rules
variable {P : Program} {ro : Option Nat} {n : Nat} {D : List Deferred} {M0 : List Nat} {w0 : World} {Q : Exit → Act → World → Prop} {ρ : Type}
variable {ops : Array Oper} {rest : List Oper} {l : Env} {B : List BlkD} {R : List RowD} {F : List (World → Prop)} {m : Option ρ} {r : ρ}
variable {d : Nat} {t t' e : TypeId} {pos : String} {af : Array Edge} {gd : Option (Nat × Bool)} {agg : Bool} {z : Value} {size bytes : Nat}
variable {α γ : Type} {enc : α × γ → List Value} {rin : α × γ → List RowF} {xs : List α} {gs : List γ} {hs : List Nat}
theorem qgR {i : Int} {y : α} (hl : gs.length = xs.length) (h : idx xs i = some y) : ∃ q, (xs.zip gs)[i.toNat]? = some (y, q) := by
  obtain ⟨_, _, h3⟩ := qr h
  have h1 := (List.getElem?_eq_some_iff.1 h3).1
  exact ⟨gs[i.toNat]'(by omega), List.getElem?_zip_eq_some.2 ⟨h3, List.getElem?_eq_getElem (by omega)⟩⟩
theorem qem {x : Code} {k : α → Option ρ} {i : Int} {ao : Option Addr} {c j : Nat} (hR : R[j]? = some (RoN enc rin e size (.slice ao xs.length c) xs gs hs))
    (h : ∀ y, idx xs i = some y → ∀ q, (xs.zip gs)[i.toNat]? = some (y, q) → ∀ g, ao = some ⟨g, 0, none⟩ → SXC P ro n D M0 w0 Q x l B R F (k y) r) :
    SXC P ro n D M0 w0 Q x l B R F ((idx xs i).bind k) r := by
  intro hm a w hf hp
  obtain ⟨hl, _⟩ := hp.nestOk hR
  cases hq : idx xs i with
  | none => rw [hq] at hm; simp at hm
  | some y =>
    rw [hq] at hm
    have hm' : k y = some r := by simpa using hm
    obtain ⟨q, hz⟩ := qgR hl hq
    obtain ⟨_, hlt, _⟩ := qr hq
    have hown := hp.row _ (List.mem_of_getElem? hR)
    rcases hown.2 with ⟨h5, h6⟩ | ⟨g, cap, cur, h5, _⟩
    · have h6' : xs.length = 0 := h6
      omega
    · have h5' : Value.slice ao xs.length c = .slice (some ⟨g, 0, none⟩) xs.length cap := h5
      simp only [Value.slice.injEq] at h5'
      exact h y hq q hz g h5'.1 hm' a w hf hp
theorem qcX {x : Code} {j i : Nat} {v : Value} {p : α × γ} (hR : R[i]? = some (RoN enc rin e size v xs gs hs)) (hj : (xs.zip gs)[j]? = some p) (hn : j ∉ hs)
    (h : SXC P ro n D M0 w0 Q x l B ((rin p).map RowF.row ++ RoN enc rin e size v xs gs (j :: hs) :: R.eraseIdx i) F m r) : SXC P ro n D M0 w0 Q x l B R F m r :=
  fun hm a w hf hp => h hm a w hf (hp.openN hR hj hn)
theorem qeR {x y : Operand} {j g i c : Nat} {ao : Option Addr} {V : Value} {y' : α} {q' : γ} {k : List α → Option ρ} (henc : EncOk enc size) (hw : wants ops l ⟨none, .store t' x y, t, pos, af, gd⟩ = some true)
    (hx : ev l x = some (.pointer (some ⟨g, i * size, none⟩))) (hy : ev l y = some V) (hT : TyF P t' agg z size bytes)
    (hR : R[j]? = some (RoN enc rin e size (.slice ao xs.length c) xs gs hs)) (hg : (Value.slice ao xs.length c).ownBlock = some g) (hh : i ∈ hs) (hi : i < xs.length) (hV : V.cells.toList = enc (y', q'))
    (h : ∀ ys, xs.set i y' = ys → Value.slice ao xs.length c = .slice ao ys.length c → SXO P ro n D M0 w0 Q ops rest l B (RoN enc rin e size (.slice ao ys.length c) ys (gs.set i q') hs :: R.eraseIdx j) F (k ys) r) :
    SXO P ro n D M0 w0 Q ops (⟨none, .store t' x y, t, pos, af, gd⟩ :: rest) l B R F (lett (xs.set i y') k) r := by
  intro hm a w hf hp
  obtain ⟨hl, hnd⟩ := hp.nestOk hR
  have hu := hp.unN hR
  have hsl : (xs.set i y').length = xs.length := List.length_set
  refine qcn (R := Ro enc e size (.slice ao xs.length c) (xs.zip gs) :: InR rin (xs.zip gs) hs :: R.eraseIdx j) (j := 0) (m := lett (xs.set i y') k) henc hw hx hy hT rfl hg (by rw [j8 hl]; exact hi) hV ?_ hm a w hf hu
  intro hm' a' w' hf' hp'
  have h1 := h _ rfl (by rw [hsl])
  refine h1 hm' a' w' hf' ?_
  have e1 : InR rin (xs.zip gs) hs = InR rin ((xs.zip gs).set i (y', q')) hs := by
    unfold InR
    rw [qd9 0 i _ (by rwa [Nat.zero_add])]
  have hp2 : Hp M0 w0 w' B (Ro enc e size (.slice ao xs.length c) ((xs.zip gs).set i (y', q')) :: InR rin ((xs.zip gs).set i (y', q')) hs :: R.eraseIdx j) F := by
    rw [← e1]; exact hp'
  have h3 := hp2.reN hnd
  rw [← qdL, show ((xs.set i y').zip (gs.set i q')).map (·.1) = xs.set i y' from List.map_fst_zip (by simp; omega), show ((xs.set i y').zip (gs.set i q')).map (·.2) = gs.set i q' from List.map_snd_zip (by simp; omega)] at h3
  rw [hsl]
  exact h3
theorem qcm {x y : Operand} {j g i c kh : Nat} {ao : Option Addr} {V : Value} {y' : α} {q' : γ} {k : List α → Option ρ} {R' : List RowD} (henc : EncOk enc size) (hw : wants ops l ⟨none, .store t' x y, t, pos, af, gd⟩ = some true)
    (hx : ev l x = some (.pointer (some ⟨g, i * size, none⟩))) (hy : ev l y = some V) (hT : TyF P t' agg z size bytes)
    (hR : R[j]? = some (RoN enc rin e size (.slice ao xs.length c) xs gs hs)) (hg : (Value.slice ao xs.length c).ownBlock = some g) (hk : hs[kh]? = some i) (hi : i < xs.length) (hV : V.cells.toList = enc (y', q')) (hTk : Takes (R.eraseIdx j) ((rin (y', q')).map RowF.row) R')
    (h : ∀ ys, xs.set i y' = ys → Value.slice ao xs.length c = .slice ao ys.length c → ∀ ks : List γ, SXO P ro n D M0 w0 Q ops rest l B (RoN enc rin e size (.slice ao ys.length c) ys ks (hs.eraseIdx kh) :: R') F (k ys) r) :
    SXO P ro n D M0 w0 Q ops (⟨none, .store t' x y, t, pos, af, gd⟩ :: rest) l B R F (lett (xs.set i y') k) r := by
  intro hm a w hf hp
  obtain ⟨hl, hnd⟩ := hp.nestOk hR
  refine qeR henc hw hx hy hT hR hg (List.mem_of_getElem? hk) hi hV (fun ys hys hv => ?_) hm a w hf hp
  intro hm' a' w' hf' hp'
  refine h ys hys hv (gs.set i q') hm' a' w' hf' ?_
  have hz : ((xs.set i y').zip (gs.set i q'))[i]? = some (y', q') := by
    rw [qdL, List.getElem?_set_self]
    rw [j8 hl]; exact hi
  rw [hys] at hz
  have hp2 := hp'.perm (List.Perm.refl _) (hTk.perm.cons _)
  have hp3 := hp2.perm (List.Perm.refl _) (List.perm_middle (l₁ := (rin (y', q')).map RowF.row) (a := RoN enc rin e size (.slice ao ys.length c) ys (gs.set i q') hs) (l₂ := R')).symm
  have hTkk : ∀ (A C : List RowD), Takes (A ++ C) A C := by
    intro A
    induction A with
    | nil => intro C; exact .nil
    | cons a A ih => intro C; exact .cons 0 rfl (ih C)
  exact hp3.closeN (i := 0) (hTkk _ _) rfl hk hz
theorem qb3 {zc : List Value} (hsz : zc.length = size) (h0 : size ≠ 0) {ca : Array Value} (hc : ca.toList = zc) (k : Nat) : (madeCells ca (k * size)).toList = (List.replicate k zc).flatten := by
  have hca : ca.size = size := by rw [← hsz, ← hc, Array.length_toList]
  have hfl : ∀ (k : Nat), ((List.replicate k zc).flatten).length = k * size := by
    intro k
    induction k with
    | zero => simp
    | succ k ih => rw [List.replicate_succ, List.flatten_cons, List.length_append, ih, hsz, Nat.succ_mul]; omega
  apply List.ext_getElem
  · rw [hfl]; simp [madeCells]
  · intro i h1 h2
    have hi : i < k * size := by rw [hfl] at h2; exact h2
    have hget : ∀ (k i : Nat) (h : i < ((List.replicate k zc).flatten).length), ((List.replicate k zc).flatten)[i] = zc[i % size]'(by rw [hsz]; exact Nat.mod_lt _ (by omega)) := by
      intro k
      induction k with
      | zero => intro i h; simp at h
      | succ k ih =>
        intro i h
        simp only [List.replicate_succ, List.flatten_cons, List.getElem_append]
        split
        · rename_i hlt
          have : i % size = i := Nat.mod_eq_of_lt (by omega)
          simp only [this]
        · rename_i hlt
          rw [ih]
          have : (i - zc.length) % size = i % size := by
            rw [hsz]
            have hge : size ≤ i := by omega
            exact (Nat.mod_eq_sub_mod hge).symm
          simp only [this]
    rw [hget]
    simp only [madeCells, Array.getElem_toList, Array.getElem_map, Array.getElem_range]
    have hlt : i % ca.size < ca.size := Nat.mod_lt _ (by omega)
    rw [getElem!_pos ca _ hlt]
    subst hc
    simp only [Array.getElem_toList, hca]
theorem qa0 {β : Type} {enc : β → List Value} {y : β} {zc : List Value} (h : enc y = zc) (k : Nat) : (List.replicate k y).flatMap enc = (List.replicate k zc).flatten := by
  induction k with
  | zero => rfl
  | succ k ih => rw [List.replicate_succ, List.flatMap_cons, ih, h]; rfl
theorem qhr {β : Type} {enc : β → List Value} {y : β} {k : List β → Option ρ} {x c : Operand} {kl kc : IntKind} {i : Int} {lim : Nat} (henc : EncOk enc size) (hs0 : size ≠ 0)
    (hw : wants ops l ⟨some d, .makeSlice t' x c, t, pos, af, gd⟩ = some true) (ht : P.underlying t' = some (.slice e)) (hT : TyF P e agg z size bytes) (hx : ev l x = some (.int kl i)) (hc : ev l c = some (.int kc i))
    (hy : enc y = z.cells.toList) (hlim : Nat.ble lim 9223372036854775807 = true) (hlb : Nat.ble (lim * bytes) 281474976710656 = true) (hd : Nat.blt d n = true)
    (h : ∀ ys, mk lim y i = some ys → ∀ a c, SXO P ro n D M0 w0 Q ops rest ((d, .slice a ys.length c) :: l) B (Ro enc e size (.slice a ys.length c) ys :: R) F (k ys) r) :
    SXO P ro n D M0 w0 Q ops (⟨some d, .makeSlice t' x c, t, pos, af, gd⟩ :: rest) l B R F ((mk lim y i).bind k) r := by
  refine kp hw fun hm a w hf hp => ?_
  cases hq : mk lim y i with
  | none => rw [hq] at hm; simp at hm
  | some ys =>
    rw [hq] at hm
    have hm' : k ys = some r := by simpa using hm
    have hq0 := hq
    unfold mk at hq
    split at hq
    · rename_i hb
      simp only [Option.some.injEq] at hq
      obtain ⟨N, rfl⟩ := Int.eq_ofNat_of_zero_le hb.1
      have hN : N ≤ lim := by omega
      have hlim' := Nat.le_of_ble_eq_true hlim
      have hlb' := Nat.le_of_ble_eq_true hlb
      obtain ⟨i0, hi, hz0, hs0', hb0⟩ := hT.inf
      subst hb0
      obtain ⟨w', hr, ho, hk⟩ := qcW (P := P) (w := w) ht hi hz0 hs0' kl kc N (Nat.le_trans (Nat.mul_le_mul_right _ hN) hlb') (by simp only [maxLen]; omega)
      have h1 := hf.ev hx
      have h2 := hf.ev hc
      have hyl : ys.length = N := by rw [← hq]; simp
      have hzl : z.cells.toList.length = size := by rw [← hy]; exact henc.len y
      have hz := h ys hq0 (some ⟨w.heap.size, 0, none⟩) N
      rw [hyl] at hz
      refine ⟨_, w', ?_, hz hm' _ _ (hf.put hd (.slice (some ⟨w.heap.size, 0, none⟩) N N)) (hp.addRow hk ?_ ?_)⟩
      · generalize a.eval = ε at h1 h2 ⊢
        simp [execOp, h1, h2, hr]
      · show w'.ownsRow 0 e size _ ys.length (ys.flatMap enc)
        rw [hyl, ← hq]
        simp only [Int.toNat_natCast]
        rw [qa0 hy, ← qb3 hzl hs0 rfl]
        exact ho
      · intro g hg'
        simp [Ro, Value.ownBlock] at hg'
        omega
    · simp at hq
theorem qhs {y : α} {q : γ} {k : List α → Option ρ} {x c : Operand} {kl kc : IntKind} {i : Int} {lim : Nat} (henc : EncOk enc size) (hs0 : size ≠ 0) (hri : ∀ f ∈ rin (y, q), f.v = .slice none 0 0 ∧ f.n = 0 ∧ f.cs = [])
    (hw : wants ops l ⟨some d, .makeSlice t' x c, t, pos, af, gd⟩ = some true) (ht : P.underlying t' = some (.slice e)) (hT : TyF P e agg z size bytes) (hx : ev l x = some (.int kl i)) (hc : ev l c = some (.int kc i))
    (hy : enc (y, q) = z.cells.toList) (hlim : Nat.ble lim 9223372036854775807 = true) (hlb : Nat.ble (lim * bytes) 281474976710656 = true) (hd : Nat.blt d n = true)
    (h : ∀ ys, mk lim y i = some ys → ∀ a c, SXO P ro n D M0 w0 Q ops rest ((d, .slice a ys.length c) :: l) B (RoN enc rin e size (.slice a ys.length c) ys (List.replicate ys.length q) [] :: R) F (k ys) r) :
    SXO P ro n D M0 w0 Q ops (⟨some d, .makeSlice t' x c, t, pos, af, gd⟩ :: rest) l B R F ((mk lim y i).bind k) r := by
  have hmk : (mk lim y i).bind k = (mk lim (y, q) i).bind (fun ps => k (ps.map (·.1))) := by
    unfold mk
    split
    · simp
    · rfl
  rw [hmk]
  refine qhr (enc := enc) henc hs0 hw ht hT hx hc hy hlim hlb hd fun ps hps a0 c0 => ?_
  have h1 : mk lim y i = some (ps.map (·.1)) ∧ ps = ((ps.map (·.1)).zip (List.replicate (ps.map (·.1)).length q)) ∧ ∀ p ∈ ps, p = (y, q) := by
    unfold mk at hps ⊢
    split at hps
    · rename_i hb
      simp only [Option.some.injEq] at hps
      rw [if_pos hb, ← hps]
      refine ⟨by simp, ?_, fun p hp => (List.mem_replicate.1 hp).2⟩
      rw [List.map_replicate, List.length_replicate, List.zip_replicate']
    · simp at hps
  obtain ⟨h1, h2, h3⟩ := h1
  have h4 := h _ h1 a0 c0
  rw [List.length_map] at h4
  intro hm a w hf hp
  refine h4 hm a w hf ?_
  have hp' : Hp M0 w0 w B (Ro enc e size (.slice a0 ps.length c0) ((ps.map (·.1)).zip (List.replicate (ps.map (·.1)).length q)) :: R) F := by rw [← h2]; exact hp
  have := hp'.nestNil (i := 0) (rin := rin) rfl (by simp) (fun p hp f hf => by
    rw [← h2] at hp
    rw [h3 p hp] at hf
    exact hri f hf)
  rw [List.length_map] at this
  exact this
theorem qgB (α γ : Type) (enc : α × γ → List Value) (rin : α × γ → List RowF) (e : TypeId) (size : Nat) (h : SXO P ro n D M0 w0 Q ops rest l B (RoN enc rin e size (.slice none 0 0) ([] : List α) ([] : List γ) [] :: R) F m r) : SXO P ro n D M0 w0 Q ops rest l B R F m r :=
  jC (α × γ) enc e size fun hm a w hf hp => h hm a w hf (hp.nestNil (i := 0) (xs := []) (gs := []) rfl rfl (by simp))
theorem nilN {w : World} (α γ : Type) (enc : α × γ → List Value) (rin : α × γ → List RowF) (e : TypeId) (size : Nat) (hp : Hp M0 w0 w B R F) : Hp M0 w0 w B (RoN enc rin e size (.slice none 0 0) ([] : List α) ([] : List γ) [] :: R) F :=
  (hp.addRow (r := Ro enc e size (.slice none 0 0) (([] : List α).zip ([] : List γ))) (Keeps.refl _ _) ⟨by simp [Ro], .inl ⟨rfl, rfl⟩⟩ (by simp [Ro, Value.ownBlock])).nestNil (i := 0) (xs := []) (gs := []) rfl rfl (by simp)
theorem qgH {x : Exit} (α γ : Type) (enc : α × γ → List Value) (rin : α × γ → List RowF) (e : TypeId) (size : Nat) (h : SXQ n D M0 w0 Q x l B (RoN enc rin e size (.slice none 0 0) ([] : List α) ([] : List γ) [] :: R) F m r) : SXQ n D M0 w0 Q x l B R F m r :=
  fun hm a w hf hp => h hm a w hf (nilN α γ enc rin e size hp)
theorem yK {xs : List α} {gs : List γ} {hs : List Nat} {i : Nat} {p : α × γ} {g c e : Nat} {ao : Option Addr} (henc : EncOk enc size) (hy : (xs.zip gs)[i]? = some p) (ha : ao = some ⟨g, 0, none⟩) :
    ∀ w, Cells (RoN enc rin e size (.slice ao xs.length c) xs gs hs).v (RoN enc rin e size (.slice ao xs.length c) xs gs hs).n (RoN enc rin e size (.slice ao xs.length c) xs gs hs).size (RoN enc rin e size (.slice ao xs.length c) xs gs hs).cs w → qk g (i * size) (enc p) w := by
  intro w h jj u hj
  obtain ⟨⟨ao', cap', hv', _, _, _, hc'⟩, _⟩ := (h : Cells (.slice ao xs.length c) xs.length size ((xs.zip gs).flatMap enc) w)
  have hv2 : Value.slice ao xs.length c = .slice ao' xs.length cap' := hv'
  simp only [Value.slice.injEq] at hv2
  obtain ⟨rfl, -, -⟩ := hv2
  obtain ⟨ad', h3, h4⟩ := hc' (i * size + jj) u (ka henc _ i p jj u hy hj)
  rw [ha] at h3
  simp only [Option.some.injEq] at h3
  subst h3
  rw [← h4]
  simp
end rules
end SX
namespace SX
open Go
def pkey (k0 k1 : IntKind) (p : Int × Int) : Value := .agg #[.int k0 p.1, .int k1 p.2]
def ents (k0 k1 : IntKind) : Nat → List (Int × Int) → List MapEntry
  | _, [] => []
  | i, p :: t => { key := pkey k0 k1 p, val := .agg #[], born := i } :: ents k0 k1 (i + 1) t
def mapO (k0 k1 : IntKind) (ks : List (Int × Int)) : Obj := .map (ents k0 k1 0 ks).toArray ks.length
theorem qbh (k0 k1 : IntKind) (p : Int × Int) : ∀ (i : Nat) (ks : List (Int × Int)), ents k0 k1 i (ks ++ [p]) = ents k0 k1 i ks ++ [{ key := pkey k0 k1 p, val := .agg #[], born := i + ks.length }]
  | i, [] => rfl
  | i, x :: t => by
    show _ :: ents k0 k1 (i + 1) (t ++ [p]) = _ :: (ents k0 k1 (i + 1) t ++ _)
    rw [qbh k0 k1 p (i + 1) t, List.length_cons, show i + 1 + t.length = i + (t.length + 1) from by omega]
theorem jA {P : Program} {w : World} {r c : Nat} {es : Array MapEntry} (h : w.heap[r]? = some (.map es c)) : (getObj r).run P w = .ok (.map es c) w := by
  simp [getObj, Sem.run, h]
theorem qar {P : Program} {w : World} {r c : Nat} {o : Obj} {es : Array MapEntry} (h : w.heap[r]? = some (.map es c)) : (setObj r o).run P w = .ok () (w.putObj r o) := by
  simp [setObj, Sem.run, h, World.putObj]
section
variable {P : Program} {w : World} {t : TypeId} {k0 k1 : IntKind}
theorem jG (hE : StE2 P t k0 k1) (em : Bool) (p : Int × Int) : (Instr.checkKey em 10000 t (pkey k0 k1 p)).run P w = .ok () w := by
  obtain ⟨f0, f1, hs, hst, hg, n0, n1, o0, o1, u0, u1⟩ := hE.out
  have c0 : ∀ n, (Instr.checkKey em (n + 1) f0.type (.int k0 p.1)).run P w = .ok () w := fun n => by simp [Instr.checkKey, run_underlying u0]
  have c1 : ∀ n, (Instr.checkKey em (n + 1) f1.type (.int k1 p.2)).run P w = .ok () w := fun n => by simp [Instr.checkKey, run_underlying u1]
  have p0 : (part f0.type #[.int k0 p.1, .int k1 p.2] 0).run P w = .ok (.int k0 p.1) w := yq u0 rfl
  have p1 : (part f1.type #[.int k0 p.1, .int k1 p.2] 1).run P w = .ok (.int k1 p.2) w := yq u1 rfl
  have h0 := c0 9998
  have h1 := c1 9998
  simp only [show (9998 + 1 : Nat) = 9999 from rfl] at h0 h1
  unfold pkey
  rw [Instr.checkKey]
  generalize Instr.checkKey em 9999 = ck at h0 h1
  simp [run_underlying hs, n0, n1, o0, o1, p0, p1, h0, h1]
theorem qbz (hE : StE2 P t k0 k1) (p : Int × Int) : ∀ (ks : List (Int × Int)) (i j : Nat), ∃ r, (Instr.findAsking t (pkey k0 k1 p) (ents k0 k1 i ks) j).run P w = .ok r w ∧ ((p ∈ ks ∧ ∃ q, r = some (q, .agg #[])) ∨ (p ∉ ks ∧ r = none))
  | [], i, j => ⟨none, by simp [ents, Instr.findAsking], .inr ⟨by simp, rfl⟩⟩
  | x :: ks, i, j => by
    obtain ⟨f0, f1, hs, hst, hg, n0, n1, o0, o1, u0, u1⟩ := hE.out
    have he := vB (w := w) (a := p.1) (b := p.2) (c := x.1) (d := x.2) hs hst n0 n1 o0 o1 u0 u1
    obtain ⟨r, h1, h2⟩ := qbz hE p ks (i + 1) (j + 1)
    have he' : (Op.equal t (pkey k0 k1 p) (pkey k0 k1 x)).run P w = .ok ((p.1 == x.1) && (p.2 == x.2)) w := he
    by_cases hpx : p = x
    · subst hpx
      refine ⟨some (j, .agg #[]), ?_, .inl ⟨by simp, _, rfl⟩⟩
      simp only [ents, Instr.findAsking, Sem.run_bind, he', Result.andThen_ok]
      simp
    · have hf : ((p.1 == x.1) && (p.2 == x.2)) = false := by
        rw [Bool.and_eq_false_iff]
        by_cases e : p.1 = x.1
        · right; simp only [beq_eq_false_iff_ne]; exact fun e2 => hpx (Prod.ext e e2)
        · left; simpa using e
      refine ⟨r, ?_, ?_⟩
      · simp only [ents, Instr.findAsking, Sem.run_bind, he', Result.andThen_ok, hf, Bool.false_eq_true, if_false]
        exact h1
      · rcases h2 with ⟨m1, m2⟩ | ⟨m1, m2⟩
        · exact .inl ⟨List.mem_cons_of_mem _ m1, m2⟩
        · exact .inr ⟨by simp [hpx, m1], m2⟩
theorem j5 (hE : StE2 P t k0 k1) (p : Int × Int) (ks : List (Int × Int)) : ∃ r, (Instr.findKey t (pkey k0 k1 p) (ents k0 k1 0 ks)).run P w = .ok r w ∧ ((p ∈ ks ∧ ∃ q, r = some (q, .agg #[])) ∨ (p ∉ ks ∧ r = none)) := by
  obtain ⟨f0, f1, hs, _⟩ := hE.out
  cases ks with
  | nil => exact ⟨none, by simp [Instr.findKey, run_underlying hs, ents, Instr.findNow], .inr ⟨by simp, rfl⟩⟩
  | cons x ks =>
    obtain ⟨r, h1, h2⟩ := qbz (w := w) hE p (x :: ks) 0 0
    refine ⟨r, ?_, h2⟩
    simp only [Instr.findKey, Sem.run_bind, run_underlying hs, Result.andThen_ok]
    simp only [ents, Instr.findNow, Instr.sameNow, pkey] at h1 ⊢
    exact h1
end
section rules
variable {P : Program} {ro : Option Nat} {n : Nat} {D : List Deferred} {M0 : List Nat} {w0 : World} {Q : Exit → Act → World → Prop} {ρ : Type}
variable {ops : Array Oper} {rest : List Oper} {l : Env} {B : List BlkD} {R : List RowD} {F : List (World → Prop)} {m : Option ρ} {r : ρ}
variable {d : Nat} {t t' kt e : TypeId} {pos : String} {af : Array Edge} {gd : Option (Nat × Bool)} {agg : Bool} {z : Value} {size bytes : Nat} {k0 k1 : IntKind}
theorem qbD (hw : wants ops l ⟨some d, .makeMap t' none, t, pos, af, gd⟩ = some true) (hd : Nat.blt d n = true)
    (h : ∀ g, SXO P ro n D M0 w0 Q ops rest ((d, .map (some g)) :: l) (blkO g (mapO k0 k1 []) :: B) R F m r) : SXO P ro n D M0 w0 Q ops (⟨some d, .makeMap t' none, t, pos, af, gd⟩ :: rest) l B R F m r :=
  kp hw fun hm a w hf hp => by
    refine ⟨.map (some w.heap.size), w.alloc (mapO k0 k1 []), ?_, h _ hm _ _ (hf.put hd _) (hp.allocO _)⟩
    generalize a.eval = ε
    simp [execOp, Instr.makeMap, newObj, mapO, ents, Sem.run]
theorem qau {x ix : Operand} {g i : Nat} {p : Int × Int} {ks : List (Int × Int)} (hw : wants ops l ⟨some d, .lookup t' x ix true, t, pos, af, gd⟩ = some true) (ht : P.underlying t' = some (.map kt e)) (hE : StE2 P kt k0 k1) (hT : TyF P e agg (.agg #[]) size bytes)
    (hx : ev l x = some (.map (some g))) (hi : ev l ix = some (.agg #[.int k0 p.1, .int k1 p.2])) (hB : B[i]? = some (blkO g (mapO k0 k1 ks))) (hd : Nat.blt d n = true)
    (h : SXO P ro n D M0 w0 Q ops rest ((d, .tuple #[.agg #[], .bool (decide (p ∈ ks))]) :: l) B R F m r) : SXO P ro n D M0 w0 Q ops (⟨some d, .lookup t' x ix true, t, pos, af, gd⟩ :: rest) l B R F m r :=
  qW _ hw rfl hd (fun a w hf hp => by
    have h1 := hf.ev hx
    have h2 := hf.ev hi
    have hb : w.heap[g]? = some (.map (ents k0 k1 0 ks).toArray ks.length) := hp.blk _ (List.mem_of_getElem? hB)
    have hg := jA (P := P) hb
    have hc := jG (w := w) hE (ents k0 k1 0 ks).toArray.isEmpty p
    obtain ⟨q, hq, hr⟩ := j5 (w := w) hE p ks
    have hz := hT.run_zero w
    generalize a.eval = ε at h1 h2 ⊢
    have hi' : (Value.agg #[.int k0 p.1, .int k1 p.2]) = pkey k0 k1 p := rfl
    rw [hi'] at h2
    generalize hck : Instr.checkKey (ents k0 k1 0 ks).toArray.isEmpty 10000 kt (pkey k0 k1 p) = ck at hc
    generalize hzz : zeroValue e = zz at hz
    simp only [execOp, h1, h2, Instr.lookup, Sem.run_bind, run_underlying ht, Result.andThen_ok, hg, Sem.run_pure, hck, hc, hq]
    rcases hr with ⟨m1, q', rfl⟩ | ⟨m1, rfl⟩
    · simp [m1]
    · simp [m1, hzz, hz]) h
def sins (ks : List (Int × Int)) (p : Int × Int) : Option (List (Int × Int)) := if p ∈ ks then none else some (ks ++ [p])
theorem qeP {x ix y : Operand} {g i : Nat} {p : Int × Int} {ks : List (Int × Int)} {k : List (Int × Int) → Option ρ} (hw : wants ops l ⟨none, .mapUpdate t' x ix y, t, pos, af, gd⟩ = some true) (ht : P.underlying t' = some (.map kt e)) (hE : StE2 P kt k0 k1)
    (hx : ev l x = some (.map (some g))) (hi : ev l ix = some (.agg #[.int k0 p.1, .int k1 p.2])) (hy : ev l y = some (.agg #[])) (hB : B[i]? = some (blkO g (mapO k0 k1 ks)))
    (h : ∀ ys, sins ks p = some ys → SXO P ro n D M0 w0 Q ops rest l (B.set i (blkO g (mapO k0 k1 ys))) R F (k ys) r) : SXO P ro n D M0 w0 Q ops (⟨none, .mapUpdate t' x ix y, t, pos, af, gd⟩ :: rest) l B R F ((sins ks p).bind k) r := by
  intro hm a w hf hp
  cases hq : sins ks p with
  | none => rw [hq] at hm; simp at hm
  | some ys =>
    rw [hq] at hm
    have hm' : k ys = some r := by simpa using hm
    have hq0 := hq
    unfold sins at hq
    split at hq
    · simp at hq
    · rename_i hn
      simp only [Option.some.injEq] at hq
      have h1 := hf.ev hx
      have h2 := hf.ev hi
      have h3 := hf.ev hy
      have hb : w.heap[g]? = some (.map (ents k0 k1 0 ks).toArray ks.length) := hp.blk _ (List.mem_of_getElem? hB)
      have hg := jA (P := P) hb
      have hc := jG (w := w) hE false p
      obtain ⟨q, hfk, hr⟩ := j5 (w := w) hE p ks
      have hq' : q = none := by
        rcases hr with ⟨m1, _⟩ | ⟨_, m2⟩
        · exact absurd m1 hn
        · exact m2
      subst hq'
      have hset := qar (P := P) (o := mapO k0 k1 ys) hb
      have hi' : (Value.agg #[.int k0 p.1, .int k1 p.2]) = pkey k0 k1 p := rfl
      rw [hi'] at h2
      have hobj : Obj.map (ents k0 k1 0 ks ++ [({ key := pkey k0 k1 p, val := .agg #[], born := ks.length } : MapEntry)]).toArray (ks.length + 1) = mapO k0 k1 ys := by
        rw [← hq]
        unfold mapO
        rw [qbh, List.length_append, Nat.zero_add]
        simp
      have hrun : (execOp a.eval ⟨none, .mapUpdate t' x ix y, t, pos, af, gd⟩).run P w = .ok .skip (w.putObj g (mapO k0 k1 ys)) := by
        generalize a.eval = ε at h1 h2 h3 ⊢
        generalize hck : Instr.checkKey false 10000 kt (pkey k0 k1 p) = ck at hc
        simp only [execOp, h1, h2, h3, Instr.mapUpdate, Sem.run_bind, run_underlying ht, Result.andThen_ok, hg, mapO, hck, hc, hfk]
        simp only [mapO] at hobj hset
        simp only [List.push_toArray, hobj]
        simp [hset]
      exact vX (zo hf hw) (kN hw) hrun (h _ hq0 hm' _ _ hf (hp.setObj hB _))
end rules
end SX
namespace SX
open Go
theorem qbJ (bs : ByteArray) : bs.data.toList.length = bs.size := by rw [Array.length_toList]; rfl
theorem qe0 (bs : ByteArray) : ∀ (k i : Nat) (r : List UInt8), i + k = bs.size → ByteArray.toList.loop bs i r = r.reverse ++ bs.data.toList.drop i
  | 0, i, r, h => by
    rw [ByteArray.toList.loop.eq_1, if_neg (by omega), List.drop_eq_nil_of_le (by rw [qbJ]; omega), List.append_nil]
  | k + 1, i, r, h => by
    rw [ByteArray.toList.loop.eq_1, if_pos (by omega), qe0 bs k (i + 1) _ (by omega)]
    have hi : i < bs.data.toList.length := by rw [qbJ]; omega
    have hg : bs.get! i = bs.data.toList[i] := by
      have hi2 : i < bs.data.size := by simpa using hi
      show bs.data[i]! = _
      rw [getElem!_pos bs.data i hi2, Array.getElem_toList]
    rw [List.drop_eq_getElem_cons hi, List.reverse_cons, List.append_assoc, hg]
    rfl
theorem qcF (bs : ByteArray) : bs.toList = bs.data.toList := by
  show ByteArray.toList.loop bs 0 [] = _
  rw [qe0 bs bs.size 0 [] (by omega)]
  simp
theorem qdm (a b : ByteArray) : (a.toList == b.toList) = (a == b) := by
  rw [qcF, qcF]
  obtain ⟨x⟩ := a
  obtain ⟨y⟩ := b
  show (x.toList == y.toList) = (x == y)
  by_cases h : x = y
  · subst h; simp
  · rw [beq_eq_false_iff_ne.2 h, beq_eq_false_iff_ne.2 (fun e => h (Array.toList_inj.1 e))]
theorem qbL (k : IntKind) : ∀ xs : List Int, xs.flatMap (eI k) = xs.map (Value.int k)
  | [] => rfl
  | x :: t => by rw [List.flatMap_cons, qbL k t]; rfl
section
variable {P : Program} {ro : Option Nat} {n : Nat} {D : List Deferred} {M0 : List Nat} {w0 : World} {Q : Exit → Act → World → Prop} {ρ : Type}
variable {ops : Array Oper} {rest : List Oper} {l : Env} {B : List BlkD} {R : List RowD} {F : List (World → Prop)} {m : Option ρ} {r : ρ}
variable {d : Nat} {t t' kt e : TypeId} {pos : String} {af : Array Edge} {gd : Option (Nat × Bool)} {agg : Bool} {z : Value} {size bytes : Nat}
def bstr (xs : List Int) : ByteArray := xs.foldl (fun r n => r.push (UInt8.ofNat n.toNat)) ByteArray.empty
theorem qfC {x : Operand} {s t1 e1 : TypeId} {v : Value} {xs : List Int} {j : Nat} (hw : wants ops l ⟨some d, .convert s t1 x, t, pos, af, gd⟩ = some true) (hs : P.underlying s = some (.slice e1)) (he : P.underlying e1 = some (.int .u8)) (ht : P.underlying t1 = some .string)
    (hx : ev l x = some v) (hF : F[j]? = some (Sl (eI .u8) 1 v xs)) (hd : Nat.blt d n = true)
    (h : SXO P ro n D M0 w0 Q ops rest ((d, .string (bstr xs)) :: l) B R F m r) : SXO P ro n D M0 w0 Q ops (⟨some d, .convert s t1 x, t, pos, af, gd⟩ :: rest) l B R F m r :=
  qW _ hw rfl hd (fun a w hf hp => by
    have h1 := hf.ev hx
    have hc : Cells v xs.length 1 (xs.flatMap (eI .u8)) w := (hp.per _ (List.mem_of_getElem? hF)).here
    have hfl : xs.flatMap (eI .u8) = xs.map (Value.int .u8) := qbL _ _
    have hfc := vx (P := P) hc
    obtain ⟨⟨ao, cap, rfl, _, _, hsp, hcc⟩, hl⟩ := hc
    generalize a.eval = ε at h1 ⊢
    have hr := run_convert_bytes_string w s t1 e1 ao xs.length cap hs he ht
    cases ao with
    | none =>
      have : xs = [] := by
        cases xs with
        | nil => rfl
        | cons y ys => obtain ⟨ad, h0, _⟩ := hcc 0 _ rfl; simp at h0
      subst this
      simp only [execOp, h1, Sem.run_bind, hr, Conv.bytesToString]
      rfl
    | some ad =>
      have hld : (loadCells ad xs.length).run P w = .ok (xs.map (Value.int .u8)).toArray w := by
        rw [← hfl]
        simpa [Builtin.firstCells] using hfc
      have hb := run_bytesToString (P := P) w ad xs.length cap xs hld
      simp only [execOp, h1, Sem.run_bind, hr, hb]
      rfl) h
theorem qgA {x y : Operand} {xt yt : TypeId} {a b : ByteArray} (hw : wants ops l ⟨some d, .binOp .neq xt x y yt, t, pos, af, gd⟩ = some true) (_hu : P.underlying xt = some .string) (hx : ev l x = some (.string a)) (hy : ev l y = some (.string b)) (hd : Nat.blt d n = true)
    (h : SXO P ro n D M0 w0 Q ops rest ((d, .bool (!(a == b))) :: l) B R F m r) : SXO P ro n D M0 w0 Q ops (⟨some d, .binOp .neq xt x y yt, t, pos, af, gd⟩ :: rest) l B R F m r :=
  qW _ hw rfl hd (fun ac w hf _ => by
    have h1 := hf.ev hx
    have h2 := hf.ev hy
    generalize ac.eval = ε at h1 h2 ⊢
    simp [execOp, h1, h2, eqGuard, binOp, Op.stringOp, go_sem, ← qdm]) h
theorem qgw {x y : Operand} {xt yt : TypeId} {a b : ByteArray} (hw : wants ops l ⟨some d, .binOp .eql xt x y yt, t, pos, af, gd⟩ = some true) (_hu : P.underlying xt = some .string) (hx : ev l x = some (.string a)) (hy : ev l y = some (.string b)) (hd : Nat.blt d n = true)
    (h : SXO P ro n D M0 w0 Q ops rest ((d, .bool (a == b)) :: l) B R F m r) : SXO P ro n D M0 w0 Q ops (⟨some d, .binOp .eql xt x y yt, t, pos, af, gd⟩ :: rest) l B R F m r :=
  qW _ hw rfl hd (fun ac w hf _ => by
    have h1 := hf.ev hx
    have h2 := hf.ev hy
    generalize ac.eval = ε at h1 h2 ⊢
    simp [execOp, h1, h2, eqGuard, binOp, Op.stringOp, go_sem, ← qdm]) h
def entF (k : IntKind) : Nat → List (Int × Value) → List MapEntry
  | _, [] => []
  | i, p :: t => { key := .int k p.1, val := p.2, born := i } :: entF k (i + 1) t
def mapF (k : IntKind) (es : List (Int × Value)) : Obj := .map (entF k 0 es).toArray es.length
def lookF (x : Int) : List (Int × Value) → Option Value
  | [] => none
  | p :: t => if x = p.1 then some p.2 else lookF x t
end
end SX
namespace SX
open Go
theorem qcG : ∀ (xs : List Int) (b : ByteArray), (xs.foldl (fun r n => r.push (UInt8.ofNat n.toNat)) b).data.toList = b.data.toList ++ xs.map fun n => UInt8.ofNat n.toNat
  | [], b => by simp
  | x :: xs, b => by
    rw [List.foldl_cons, qcG xs]
    simp [ByteArray.push]
theorem za (xs : List Int) : (bstr xs).data.toList = xs.map fun n => UInt8.ofNat n.toNat := by
  unfold bstr
  rw [qcG]
  show [] ++ _ = _
  rw [List.nil_append]
theorem qex {a b : ByteArray} (h : a.data.toList = b.data.toList) : a = b := by
  obtain ⟨⟨x⟩⟩ := a
  obtain ⟨⟨y⟩⟩ := b
  simp at h
  rw [h]
theorem zv (xs : List Int) : (bstr xs).size = xs.length := by
  rw [← qbJ, za, List.length_map]
theorem qdT (xs ys : List Int) : bstr xs ++ bstr ys = bstr (xs ++ ys) := by
  apply qex
  rw [za, List.map_append, ← za, ← za]
  simp
theorem qdn (xs : List Int) (l h : Nat) : (bstr xs).extract l h = bstr ((xs.take h).drop l) := by
  apply qex
  rw [za, List.map_drop, List.map_take, ← za]
  simp [List.drop_take]
def b8 (n : Int) : Int := ((UInt8.ofNat n.toNat).toNat : Int)
theorem qaG {n : Int} (h0 : 0 ≤ n) (h1 : n < 256) : b8 n = n := by
  unfold b8
  rw [UInt8.toNat_ofNat']
  omega
theorem qfN {xs ys : List Int} (hx : ∀ x ∈ xs, 0 ≤ x ∧ x < 256) (hy : ∀ x ∈ ys, 0 ≤ x ∧ x < 256) (h : bstr xs = bstr ys) : xs = ys := by
  have h1 : (bstr xs).data.toList.map (fun u => (u.toNat : Int)) = xs := by
    rw [za, List.map_map]
    conv => rhs; rw [← List.map_id xs]
    exact List.map_congr_left fun x hx' => qaG (hx x hx').1 (hx x hx').2
  have h2 : (bstr ys).data.toList.map (fun u => (u.toNat : Int)) = ys := by
    rw [za, List.map_map]
    conv => rhs; rw [← List.map_id ys]
    exact List.map_congr_left fun x hx' => qaG (hy x hx').1 (hy x hx').2
  rw [← h1, ← h2, h]
def lB (b : ByteArray) : List Int := b.data.toList.map fun u => (u.toNat : Int)
theorem qaX (b : ByteArray) : bstr (lB b) = b := by
  apply qex
  rw [za]
  unfold lB
  rw [List.map_map]
  conv => rhs; rw [← List.map_id b.data.toList]
  exact List.map_congr_left fun u _ => by simp
def eT (s : List Int) : List Value := [.string (bstr s)]
theorem zd : EncOk eT 1 := ⟨fun _ => rfl, fun _ => rfl⟩
section
variable {P : Program} {ro : Option Nat} {n : Nat} {D : List Deferred} {M0 : List Nat} {w0 : World} {Q : Exit → Act → World → Prop} {ρ : Type}
variable {ops : Array Oper} {rest : List Oper} {l : Env} {B : List BlkD} {R : List RowD} {F : List (World → Prop)} {m : Option ρ} {r : ρ}
variable {d : Nat} {t t' : TypeId} {pos : String} {af : Array Edge} {gd : Option (Nat × Bool)}
theorem qA {x y : Operand} {xt yt : TypeId} {a b : List Int} {k : List Int → Option ρ} (hw : wants ops l ⟨some d, .binOp .add xt x y yt, t, pos, af, gd⟩ = some true) (_hu : P.underlying xt = some .string)
    (hx : ev l x = some (.string (bstr a))) (hy : ev l y = some (.string (bstr b))) (hd : Nat.blt d n = true)
    (h : ∀ zs, app 9223372036854775807 a b = some zs → SXO P ro n D M0 w0 Q ops rest ((d, .string (bstr zs)) :: l) B R F (k zs) r) :
    SXO P ro n D M0 w0 Q ops (⟨some d, .binOp .add xt x y yt, t, pos, af, gd⟩ :: rest) l B R F ((app 9223372036854775807 a b).bind k) r := by
  refine kp hw fun hm ac w hf hp => ?_
  cases hq : app 9223372036854775807 a b with
  | none => rw [hq] at hm; simp at hm
  | some zs =>
    rw [hq] at hm
    have hm' : k zs = some r := by simpa using hm
    have hq0 := hq
    unfold app at hq
    split at hq
    · rename_i hb
      simp only [Option.some.injEq] at hq
      subst hq
      refine ⟨.string (bstr (a ++ b)), w, ?_, h _ hq0 hm' _ _ (hf.put hd _) hp⟩
      have h1 := hf.ev hx
      have h2 := hf.ev hy
      have hb1 : ¬ (((bstr a).size + (bstr b).size : Nat) : Int) > IntKind.i64.max := by
        rw [zv, zv, show IntKind.i64.max = 9223372036854775807 from by decide]; omega
      generalize ac.eval = ε at h1 h2 ⊢
      rw [← qdT]
      simp only [execOp, h1, h2, eqGuard, binOp, Op.stringOp, go_sem]
      rw [if_neg hb1]
      rfl
    · simp at hq
theorem zw {x : Operand} {s : TypeId} {a : List Int} (hw : wants ops l ⟨some d, .call ⟨.builtin .len, #[x], #[s]⟩, t, pos, af, gd⟩ = some true) (ht : P.underlying s = some .string) (hx : ev l x = some (.string (bstr a))) (hd : Nat.blt d n = true)
    (h : SXO P ro n D M0 w0 Q ops rest ((d, .int .i64 (a.length : Int)) :: l) B R F m r) : SXO P ro n D M0 w0 Q ops (⟨some d, .call ⟨.builtin .len, #[x], #[s]⟩, t, pos, af, gd⟩ :: rest) l B R F m r :=
  qW (.int .i64 (a.length : Int)) hw rfl hd (fun ac w hf _ => by
    have h1 := hf.ev hx
    generalize ac.eval = e at h1 ⊢
    simp [h1, Builtin.len_, run_underlying ht, goInt, go_sem, zv]) h
theorem vd {x ix : Operand} {xt : TypeId} {ki : IntKind} {i : Int} {k : Int → Option ρ} {xs : List Int} (hw : wants ops l ⟨some d, .index xt x ix, t, pos, af, gd⟩ = some true) (ht : P.underlying xt = some .string)
    (hx : ev l x = some (.string (bstr xs))) (hi : ev l ix = some (.int ki i)) (hd : Nat.blt d n = true)
    (h : ∀ y, idx xs i = some y → SXO P ro n D M0 w0 Q ops rest ((d, .int .u8 (b8 y)) :: l) B R F (k y) r) :
    SXO P ro n D M0 w0 Q ops (⟨some d, .index xt x ix, t, pos, af, gd⟩ :: rest) l B R F ((idx xs i).bind k) r := by
  have e : (idx xs i).bind k = (idx (xs.map b8) i).bind fun _ => (idx xs i).bind k := by
    unfold idx
    by_cases h0 : 0 ≤ i
    · rw [if_pos h0, if_pos h0, List.getElem?_map]
      cases xs[i.toNat]? <;> rfl
    · rw [if_neg h0, if_neg h0]; rfl
  rw [e]
  refine qeN (xs := xs.map b8) hw ht hx hi ?_ hd (fun y hy => ?_)
  · rw [za, List.map_map]; rfl
  · have : ∃ z, idx xs i = some z ∧ y = b8 z := by
      unfold idx at hy ⊢
      by_cases h0 : 0 ≤ i
      · rw [if_pos h0] at hy ⊢
        rw [List.getElem?_map] at hy
        cases hz : xs[i.toNat]? with
        | none => rw [hz] at hy; simp at hy
        | some z => rw [hz] at hy; exact ⟨z, rfl, by simpa using hy.symm⟩
      · rw [if_neg h0] at hy; simp at hy
    obtain ⟨z, hz, rfl⟩ := this
    rw [hz]
    exact h z hz
theorem jU {x : Operand} {lo hi : Option Operand} {li hj : Int} {k : List Int → Option ρ} {xs : List Int} (hw : wants ops l ⟨some d, .slice t' x lo hi none, t, pos, af, gd⟩ = some true) (ht : P.underlying t' = some .string)
    (hx : ev l x = some (.string (bstr xs))) (hlo : evOpt l lo 0 = some li) (hhi : evOpt l hi (xs.length : Int) = some hj) (hd : Nat.blt d n = true)
    (h : ∀ ys, sub xs li hj = some ys → SXO P ro n D M0 w0 Q ops rest ((d, .string (bstr ys)) :: l) B R F (k ys) r) :
    SXO P ro n D M0 w0 Q ops (⟨some d, .slice t' x lo hi none, t, pos, af, gd⟩ :: rest) l B R F ((sub xs li hj).bind k) r := by
  refine kp hw fun hm a w hf hp => ?_
  cases hq : sub xs li hj with
  | none => rw [hq] at hm; simp at hm
  | some ys =>
    rw [hq] at hm
    have hm' : k ys = some r := by simpa using hm
    have hq0 := hq
    unfold sub at hq
    split at hq
    · rename_i hb
      obtain ⟨b1, b2, b3⟩ := hb
      simp only [Option.some.injEq] at hq
      obtain ⟨L, rfl⟩ := Int.eq_ofNat_of_zero_le b1
      obtain ⟨H, rfl⟩ := Int.eq_ofNat_of_zero_le (Int.le_trans b1 b2)
      subst hq
      refine ⟨.string (bstr ((xs.take H).drop L)), w, ?_, h _ hq0 hm' _ _ (hf.put hd _) hp⟩
      have h1 := hf.ev hx
      have e1 := v7 hf hlo
      have e2 := v7 hf hhi
      have b2' : L ≤ H := by omega
      have b3' : H ≤ (bstr xs).size := by rw [zv]; omega
      have hb0 : (0 : Int) ≤ (H : Int) := by omega
      have hb1 : (H : Int) ≤ ((bstr xs).size : Int) := by omega
      have hb2 : (L : Int) ≤ (H : Int) := by omega
      have hb3 : (0 : Int) ≤ (L : Int) := by omega
      rw [← qdn]
      generalize hε : a.eval = ε at h1 e1 e2 ⊢
      rcases e1 with ⟨k1, e1⟩ | ⟨rfl, e1⟩ <;> rcases e2 with ⟨k2, e2⟩ | ⟨rfl, e2⟩
      · simp [execOp, h1, e1, e2, Instr.sliceAt, Instr.slice, Instr.sliceBounds, Instr.sliceBound, asIntOf, run_underlying ht, hb0, hb3, b3', b2']
      · have : H = (bstr xs).size := by rw [zv]; omega
        subst this
        simp [execOp, h1, e1, Instr.sliceAt, Instr.slice, Instr.sliceBounds, Instr.sliceBound, asIntOf, run_underlying ht, hb3, b2']
      · have : L = 0 := by omega
        subst this
        simp [execOp, h1, e2, Instr.sliceAt, Instr.slice, Instr.sliceBounds, Instr.sliceBound, asIntOf, run_underlying ht, hb0, b3']
      · have : H = (bstr xs).size := by rw [zv]; omega
        subst this
        have : L = 0 := by omega
        subst this
        simp [execOp, h1, Instr.sliceAt, Instr.slice, Instr.sliceBounds, run_underlying ht]
    · simp at hq
theorem qee (w : World) {t tu ty e : TypeId} {agg : Bool} {z : Value} {size bytes : Nat} (ht : P.underlying t = some (.slice e)) (htu : P.underlying tu = some .string) (hT : TyF P e agg z size bytes) (hzs : z.cells.size = size)
    {v : Value} {n : Nat} {xs : List Value} (hown : w.ownsRow 0 e size v n xs) {u : Value} {m : Nat} {news : List Value} (hnl : news.length = m * size) (hlo : Builtin.lenOf u = pure m)
    (hfc0 : ∀ w' : World, (Builtin.firstCells size m u).run P w' = .ok news.toArray w') (h1 : jz news = true)
    (h63 : n + m ≤ maxLen) (hbytes : (n + m) * bytes ≤ 140737488355328) :
    ∃ v' w', (Builtin.append_ #[t, tu] ty #[v, u]).run P w = .ok v' w' ∧ w'.ownsRow 0 e size v' (n + m) (xs ++ news) ∧
      ((v'.ownBlock = v.ownBlock ∧ Keeps v.ownBlock.toList w w') ∨ (Keeps [] w w' ∧ ∀ g, v'.ownBlock = some g → w.heap.size ≤ g)) := by
  obtain ⟨i, hi, hz, hsz, hby⟩ := hT.inf
  subst hsz; subst hby
  have h1' : ∀ v ∈ news, v.oneCell' = true := List.all_eq_true.1 h1
  have hsmall : n + m ≤ 9223372036854775807 := by simp only [maxLen] at h63; omega
  have hlen : (xs ++ news).length = (n + m) * i.size := by rw [List.length_append, hown.1, hnl, Nat.add_mul]
  have hfc : ∀ w', w'.heap = w.heap → (Builtin.firstCells i.size m u).run P w' = .ok news.toArray w' := fun w' _ => hfc0 w'
  have hfo : ∀ w', w'.heap = w.heap → (Builtin.firstCells i.size n v).run P w' = .ok xs.toArray w' := fun w' hh => vx ((zq hown).heap hh)
  have grown : ∀ (old : Nat), old < n + m →
      (w.drew.alloc (.cells (xs.toArray ++ news.toArray ++ Builtin.zeroCells z.cells (grownCap w (n + m) old e - (n + m))) e)).ownsRow 0 e i.size
        (.slice (some ⟨w.heap.size, 0, none⟩) (n + m) (grownCap w (n + m) old e)) (n + m) (xs ++ news) ∧
      Keeps [] w (w.drew.alloc (.cells (xs.toArray ++ news.toArray ++ Builtin.zeroCells z.cells (grownCap w (n + m) old e - (n + m))) e)) := by
    intro old ho
    have hge := grownCap_ge w (n + m) old e
    have hcm : grownCap w (n + m) old e ≤ maxLen := grownCap_le_maxLen w (n + m) old e h63
    refine ⟨⟨hlen, .inr ⟨w.heap.size, _, _, rfl, Nat.zero_le _, heap_alloc_new w.drew _, hge, hcm, ?_, ?_⟩⟩, ⟨rfl, rfl, rfl, by simp, fun k hk _ => Go.RowKit.Below.heap_alloc w.drew _ k hk, Nat.le_succ _⟩⟩
    · simp only [Array.size_append, List.size_toArray, size_zeroCells, hzs, hown.1, hnl, ← Nat.add_mul]
      congr 1
      omega
    · simp only [Array.toList_append, List.append_assoc]
      rw [← List.append_assoc, ← hlen]
      exact List.take_left
  rcases hown.2 with ⟨rfl, rfl⟩ | ⟨g, cap, cur, rfl, hbg, hg, hnc, hcm, hcs, htake⟩
  · have hx : xs = [] := List.eq_nil_of_length_eq_zero (by simpa using hown.1)
    subst hx
    by_cases hm : m = 0
    · subst hm
      have hn : news = [] := List.eq_nil_of_length_eq_zero (by simpa using hnl)
      subst hn
      refine ⟨.slice none 0 0, w, ?_, World.ownsRow_nil w 0 e i.size, .inr ⟨Keeps.refl _ _, by simp [Value.ownBlock]⟩⟩
      have := hfc w rfl
      simp [Builtin.append_, run_underlying ht, run_underlying htu, Go.sizeOf, typeInfo, hi, hlo, this]
    · have hgr := grown 0 (by omega)
      have h48 := vY (need := 0 + m) (cap := 0) (by omega) hbytes
      simp only [Nat.zero_add, List.nil_append, Array.empty_append] at hgr h48 hbytes ⊢
      refine ⟨_, _, ?_, hgr.1, .inr ⟨hgr.2, by simp [Value.ownBlock]⟩⟩
      have hf := hfc w.drew rfl
      have hf0 : (Builtin.firstCells i.size 0 (.slice none 0 0)).run P w.drew = .ok #[] w.drew := hfo w.drew rfl
      have hm' : ¬ m ≤ 0 := by omega
      have hmx : ¬ (9223372036854775807 : Int) < (m : Int) := by omega
      have h48' : ¬ Builtin.nextslicecap m 0 * i.bytes > 2 ^ 48 := by simpa using h48
      simp [Builtin.append_, run_underlying ht, run_underlying htu, Go.sizeOf, typeInfo, zeroValue, hi, hz, hlo, hm, hmx, h48', Question.forced, hf, hf0, newRow, grownCap]
  · by_cases hroom : n + m ≤ cap
    · have hfit : n * i.size + news.length ≤ cur.size := by rw [hnl, hcs, ← Nat.add_mul]; exact Nat.mul_le_mul_right _ hroom
      have hst := run_storeCells_at P g (n * i.size) e news 0 cur w hg (by simpa using hfit) h1'
      simp only [Nat.add_zero] at hst
      have hf := hfc w rfl
      refine ⟨.slice (some ⟨g, 0, none⟩) (n + m) cap, w.setRow g (cur.toList.take (n * i.size) ++ news ++ cur.toList.drop (n * i.size + news.length)).toArray, ?_, ⟨hlen, .inr ⟨g, cap, _, rfl, hbg, setRow_heap w g cur _ e _ hg, hroom, hcm, ?_, ?_⟩⟩, .inl ⟨rfl, ⟨rfl, rfl, rfl, by simp, fun k _ hk => setRow_other w g k _ (fun e => hk (by simp [Value.ownBlock, e])), Nat.le_refl _⟩⟩⟩
      · simp [Builtin.append_, run_underlying ht, run_underlying htu, Go.sizeOf, typeInfo, hi, hlo, hroom, hf, Addr.add_lit, hst]
      · simp only [List.size_toArray, List.length_append, List.length_take, List.length_drop, Array.length_toList]
        omega
      · rw [htake, ← hlen]
        exact List.take_left
    · have hgr := grown cap (by omega)
      refine ⟨_, _, ?_, hgr.1, .inr ⟨hgr.2, by simp [Value.ownBlock]⟩⟩
      have hf := hfc w.drew rfl
      have hf0 := hfo w.drew rfl
      have hmx : ¬ (9223372036854775807 : Int) < (n : Int) + (m : Int) := by omega
      have h48' : ¬ Builtin.nextslicecap (n + m) cap * i.bytes > 2 ^ 48 := by simpa using vY (by omega) hbytes
      simp [Builtin.append_, run_underlying ht, run_underlying htu, Go.sizeOf, typeInfo, zeroValue, hi, hz, hlo, hroom, hmx, h48', Question.forced, hf, hf0, newRow, grownCap]
      simp only [← Array.append_assoc, List.append_toArray]
theorem qeK {xs ys : List Int} {k : List Int → Option ρ} {s x : Operand} {v : Value} {tu e : TypeId} {lim : Nat} (i : Nat)
    (hw : wants ops l ⟨some d, .call ⟨.builtin .append, #[s, x], #[t', tu]⟩, t, pos, af, gd⟩ = some true) (ht : P.underlying t' = some (.slice e)) (htu : P.underlying tu = some .string) (hT : TyF P e false (.int .u8 0) 1 1) (hd : Nat.blt d n = true)
    (hs : ev l s = some v) (hx : ev l x = some (.string (bstr ys))) (hR : R[i]? = some (Ro (eI .u8) e 1 v xs)) (hlim : Nat.ble lim 140737488355328 = true)
    (h : ∀ zs, app lim xs (ys.map b8) = some zs → ∀ a c, SXO P ro n D M0 w0 Q ops rest ((d, .slice a zs.length c) :: l) B (Ro (eI .u8) e 1 (.slice a zs.length c) zs :: R.eraseIdx i) F (k zs) r) :
    SXO P ro n D M0 w0 Q ops (⟨some d, .call ⟨.builtin .append, #[s, x], #[t', tu]⟩, t, pos, af, gd⟩ :: rest) l B R F ((app lim xs (ys.map b8)).bind k) r := by
  refine kp hw fun hm a w hf hp => ?_
  cases hq : app lim xs (ys.map b8) with
  | none => rw [hq] at hm; simp at hm
  | some zs =>
    rw [hq] at hm
    have hm' : k zs = some r := by simpa using hm
    have hq' := hq
    unfold app at hq
    split at hq
    · rename_i hle
      simp only [Option.some.injEq] at hq
      subst hq
      have hle' := Nat.le_of_ble_eq_true hlim
      rw [List.length_map] at hle
      have h1 := hf.ev hs
      have h2 := hf.ev hx
      have hcells : Lib.strCells (bstr ys) = (ys.map b8).flatMap (eI .u8) := by
        rw [qbL]
        unfold Lib.strCells
        rw [za, List.map_map, List.map_map]
        rfl
      obtain ⟨v', w', hr, ho, hk⟩ := qee (P := P) (tu := tu) (ty := t) w ht htu hT rfl (hp.row _ (List.mem_of_getElem? hR)) (u := .string (bstr ys)) (m := ys.length) (news := Lib.strCells (bstr ys)) (by rw [Lib.strCells_length, zv, Nat.mul_one])
        (by show pure (bstr ys).size = _; rw [zv]) (fun w' => by have := Lib.run_firstCells_string (P := P) w' 1 (bstr ys); rw [zv] at this; exact this) (by rw [hcells]; exact ky .u8 |>.okAll _)
        (by show xs.length + ys.length ≤ maxLen; simp only [maxLen]; omega) (by show (xs.length + ys.length) * 1 ≤ _; omega)
      have hform := hp.swapRow (r' := Ro (eI .u8) e 1 v' (xs ++ ys.map b8)) hR ?_ hk
      · refine ⟨v', w', ?_, ?_⟩
        · generalize a.eval = ε at h1 h2 ⊢
          simp only [Ro] at hr
          simp [execOp, resolve, invoke, builtin, h1, h2, hr]
        · have hs2 : SXO P ro n D M0 w0 Q ops rest ((d, v') :: l) B (Ro (eI .u8) e 1 v' (xs ++ ys.map b8) :: R.eraseIdx i) F (k (xs ++ ys.map b8)) r :=
            qbe rfl fun a c hv => by subst hv; exact h _ hq' a c
          exact hs2 hm' _ _ (hf.put hd _) hform
      · have ho' : w'.ownsRow 0 e 1 v' (xs.length + ys.length) (xs.flatMap (eI .u8) ++ Lib.strCells (bstr ys)) := ho
        show w'.ownsRow 0 e 1 v' (xs ++ ys.map b8).length ((xs ++ ys.map b8).flatMap (eI .u8))
        rw [List.length_append, List.flatMap_append, List.length_map, ← hcells]
        exact ho'
    · simp at hq
end
def bself (g : Nat) (u : Bool) : Value := .pointer (if u then some ⟨g, 0, none⟩ else none)
theorem qca {w : World} {g : Nat} {old : Array Value} {t : TypeId} {fr : Nat × Nat} {v : Value} (h : w.heap[g]? = some (.cells old t fr)) : w.setCell ⟨g, 0, none⟩ v = w.setRow g (old.setIfInBounds 0 v) := by
  unfold World.setCell World.setRow
  congr 1
  apply Array.ext
  · simp
  · intro i h1 h2
    have hlt : g < w.heap.size := (Array.getElem?_eq_some_iff.1 h).1
    have hv : w.heap[g] = .cells old t fr := (Array.getElem?_eq_some_iff.1 h).2
    by_cases hi : g = i
    · subst hi
      simp [Array.getElem_modify, hv]
    · simp [Array.getElem_modify, hi]
theorem qey {P : Program} {f : FuncId} {T : TypeId}
    (hu : ∀ (b : Nat) (w : World), w.cell? ⟨b, 0, none⟩ = some (.pointer (some ⟨b, 0, none⟩)) → Calls P f #[.pointer (some ⟨b, 0, none⟩)] w fun e w' => e = .returned (.tuple #[]) ∧ w' = w)
    (hf : ∀ (b : Nat) (w : World), w.cell? ⟨b, 0, none⟩ = some (.pointer none) → w.shape? b = some (T, 2) → w.frozen? ⟨b, 0, none⟩ = false → Calls P f #[.pointer (some ⟨b, 0, none⟩)] w fun e w' => e = .returned (.tuple #[]) ∧ w' = w.setCell ⟨b, 0, none⟩ (.pointer (some ⟨b, 0, none⟩)))
    (g : Nat) (u : Bool) (v : Value) : PureM P f [.pointer (some ⟨g, 0, none⟩)] [⟨g, T, [bself g u, v]⟩] [] [] Unit (fun _ => .tuple #[]) (fun _ => [⟨g, T, [bself g true, v]⟩]) (fun _ => []) := by
  intro w hp
  have hb : w.heap[g]? = some (.cells #[bself g u, v] T (0, 0)) := hp.blk ⟨g, T, [bself g u, v]⟩ (List.mem_cons_self ..)
  cases u with
  | true =>
    refine (hu g w (by unfold World.cell?; rw [hb]; rfl)).mono fun e w' ⟨h1, h2⟩ => ⟨(), h1, ?_⟩
    subst h2
    exact hp
  | false =>
    refine (hf g w (by unfold World.cell?; rw [hb]; rfl) (by unfold World.shape?; rw [hb]; rfl) (by unfold World.frozen?; rw [hb]; rfl)).mono fun e w' ⟨h1, h2⟩ => ⟨(), h1, ?_⟩
    subst h2
    rw [qca hb]
    exact hp.setBlk (i := 0) (cs' := [bself g true, v]) rfl
theorem qcN (k0 k1 : IntKind) : ∀ (i j : Nat) (ks : List (Int × Int)), j < ks.length → (ents k0 k1 i ks).findIdx? (fun e => ((e.born : Nat) : Int) == ((i + j : Nat) : Int)) = some j
  | i, _, [], h => by simp at h
  | i, 0, x :: t, _ => by simp [ents, List.findIdx?_cons]
  | i, j + 1, x :: t, h => by
    have h' : j < t.length := by simpa using h
    have hn : (((i : Nat) : Int) == ((i + (j + 1) : Nat) : Int)) = false := by
      simp only [beq_eq_false_iff_ne, ne_eq, Int.natCast_inj]; omega
    have ih := qcN k0 k1 (i + 1) j t h'
    rw [show i + 1 + j = i + (j + 1) from by omega] at ih
    simp only [ents, List.findIdx?_cons, hn, ih]
    rfl
theorem qcO (k0 k1 : IntKind) : ∀ (i j : Nat) (ks : List (Int × Int)), (ents k0 k1 i ks).modify j (fun e => { e with val := .agg #[] }) = ents k0 k1 i ks
  | i, j, [] => by cases j <;> simp [ents]
  | i, 0, x :: t => by simp [ents]
  | i, j + 1, x :: t => by simp [ents, qcO k0 k1 (i + 1) j t]
section
variable {P : Program} {ro : Option Nat} {n : Nat} {D : List Deferred} {M0 : List Nat} {w0 : World} {Q : Exit → Act → World → Prop} {ρ : Type}
variable {ops : Array Oper} {rest : List Oper} {l : Env} {B : List BlkD} {R : List RowD} {F : List (World → Prop)} {m : Option ρ} {r : ρ}
variable {d : Nat} {t t' kt e : TypeId} {pos : String} {af : Array Edge} {gd : Option (Nat × Bool)} {agg : Bool} {size bytes : Nat} {k0 k1 : IntKind}
theorem qdH {x ix : Operand} {g i : Nat} {p : Int × Int} {ks : List (Int × Int)} {k : List (Int × Int) → Option ρ} (hw : wants ops l ⟨some d, .mapEntry t' x ix, t, pos, af, gd⟩ = some true) (ht : P.underlying t' = some (.map kt e)) (hE : StE2 P kt k0 k1) (hT : TyF P e agg (.agg #[]) size bytes)
    (hx : ev l x = some (.map (some g))) (hi : ev l ix = some (.agg #[.int k0 p.1, .int k1 p.2])) (hB : B[i]? = some (blkO g (mapO k0 k1 ks))) (hd : Nat.blt d n = true)
    (h : ∀ ys, sins ks p = some ys → SXO P ro n D M0 w0 Q ops rest ((d, .tuple #[.agg #[], .int .i64 ks.length]) :: l) (B.set i (blkO g (mapO k0 k1 ys))) R F (k ys) r) : SXO P ro n D M0 w0 Q ops (⟨some d, .mapEntry t' x ix, t, pos, af, gd⟩ :: rest) l B R F ((sins ks p).bind k) r := by
  refine kp hw fun hm a w hf hp => ?_
  cases hq : sins ks p with
  | none => rw [hq] at hm; simp at hm
  | some ys =>
    rw [hq] at hm
    have hm' : k ys = some r := by simpa using hm
    have hq0 := hq
    unfold sins at hq
    split at hq
    · simp at hq
    · rename_i hn
      simp only [Option.some.injEq] at hq
      have h1 := hf.ev hx
      have h2 := hf.ev hi
      have hb : w.heap[g]? = some (.map (ents k0 k1 0 ks).toArray ks.length) := hp.blk _ (List.mem_of_getElem? hB)
      have hg := jA (P := P) hb
      have hc := jG (w := w) hE false p
      obtain ⟨q, hfk, hr⟩ := j5 (w := w) hE p ks
      have hq' : q = none := by
        rcases hr with ⟨m1, _⟩ | ⟨_, m2⟩
        · exact absurd m1 hn
        · exact m2
      subst hq'
      have hz := hT.run_zero w
      have hset := qar (P := P) (o := mapO k0 k1 ys) hb
      have hi' : (Value.agg #[.int k0 p.1, .int k1 p.2]) = pkey k0 k1 p := rfl
      rw [hi'] at h2
      have hobj : Obj.map (ents k0 k1 0 ks ++ [({ key := pkey k0 k1 p, val := .agg #[], born := ks.length } : MapEntry)]).toArray (ks.length + 1) = mapO k0 k1 ys := by
        rw [← hq]
        unfold mapO
        rw [qbh, List.length_append, Nat.zero_add]
        simp
      refine ⟨.tuple #[.agg #[], .int .i64 ks.length], w.putObj g (mapO k0 k1 ys), ?_, h _ hq0 hm' _ _ (hf.put hd _) (hp.setObj hB _)⟩
      generalize a.eval = ε at h1 h2 ⊢
      generalize hck : Instr.checkKey false 10000 kt (pkey k0 k1 p) = ck at hc
      generalize hzz : zeroValue e = zz at hz
      simp only [execOp, h1, h2, Instr.mapEntry, Sem.run_bind, run_underlying ht, Result.andThen_ok, hg, mapO, hck, hc, hfk]
      simp only [mapO] at hobj hset
      simp only [hzz, hz, Result.andThen_ok, List.push_toArray, hobj]
      simp [hset, goInt]
theorem qcj {x ix y : Operand} {g i : Nat} {j : Nat} {ks : List (Int × Int)} (hw : wants ops l ⟨none, .entryStore t' x ix y, t, pos, af, gd⟩ = some true)
    (hx : ev l x = some (.map (some g))) (hi : ev l ix = some (.int .i64 j)) (hy : ev l y = some (.agg #[])) (hB : B[i]? = some (blkO g (mapO k0 k1 ks))) (hj : j < ks.length)
    (h : SXO P ro n D M0 w0 Q ops rest l B R F m r) : SXO P ro n D M0 w0 Q ops (⟨none, .entryStore t' x ix y, t, pos, af, gd⟩ :: rest) l B R F m r := by
  intro hm a w hf hp
  have h1 := hf.ev hx
  have h2 := hf.ev hi
  have h3 := hf.ev hy
  have hb : w.heap[g]? = some (.map (ents k0 k1 0 ks).toArray ks.length) := hp.blk _ (List.mem_of_getElem? hB)
  have hg := jA (P := P) hb
  have hset := qar (P := P) (o := mapO k0 k1 ks) hb
  have hfind : (ents k0 k1 0 ks).toArray.findIdx? (fun e => ((e.born : Nat) : Int) == ((j : Nat) : Int)) = some j := by
    have := qcN k0 k1 0 j ks hj
    rw [Nat.zero_add] at this
    rw [← this]
    simp
  have hmod : (ents k0 k1 0 ks).toArray.modify j (fun e => { e with val := .agg #[] }) = (ents k0 k1 0 ks).toArray := by
    apply Array.ext'
    rw [Array.toList_modify]
    exact qcO k0 k1 0 j ks
  have hrun : (execOp a.eval ⟨none, .entryStore t' x ix y, t, pos, af, gd⟩).run P w = .ok .skip (w.putObj g (mapO k0 k1 ks)) := by
    generalize a.eval = ε at h1 h2 h3 ⊢
    simp only [execOp, h1, h2, h3, Instr.entryStore, Sem.run_bind, hg, Result.andThen_ok, asInt, asIntOf]
    simp only [mapO] at hset
    simp only [mapO, Sem.run_pure, Result.andThen_ok]
    rw [hfind]
    simp only [hmod]
    simp [hset]
  have hs : B.set i (blkO g (mapO k0 k1 ks)) = B := by
    obtain ⟨hl, hv⟩ := List.getElem?_eq_some_iff.1 hB
    rw [← hv]
    exact List.set_getElem_self hl
  have hp' := hp.setObj hB (mapO k0 k1 ks)
  rw [show (blkO g (mapO k0 k1 ks)).g = g from rfl, hs] at hp'
  exact vX (zo hf hw) (kN hw) hrun (h hm _ _ hf hp')
theorem qgd {ks ys : List (Int × Int)} {p : Int × Int} (h : sins ks p = some ys) : ks.length < ys.length := by
  unfold sins at h
  split at h
  · simp at h
  · simp only [Option.some.injEq] at h
    subst h
    simp
end
theorem onb {α β : Type} (f : α → Option β) : (none : Option α).bind f = none := rfl
theorem osb {α β : Type} (a : α) (f : α → Option β) : (some a).bind f = f a := rfl
theorem bno {α β : Type} (o : Option α) : (o.bind fun _ => (none : Option β)) = none := by cases o <;> rfl
end SX
namespace SX
open Go
def splitM (s sep : List Int) : Option (List (List Int)) :=
  match sep with
  | [c] => if s.length < 4294967281 then some ((Lib.splitB (bstr [c]) 0 (Lib.countB (bstr s) (bstr [c])) (bstr s)).map lB) else none
  | _ => none
def itoaS (x : Int) : Option (List Int) := if 0 ≤ x ∧ x < 100 then some (lB ⟨(Lib.decDigits x.toNat).toArray⟩) else none
def itoaB (x : Int) : Option (List Int) := if 0 ≤ x ∧ x < 1000 then some (lB ⟨(Lib.itoa x).toArray⟩) else none
def atoiM (s : List Int) : Option Int := if s.length ≤ 18 then Lib.atoi (bstr s).data.toList else none
def trimM (s cut : List Int) : Option (List Int) := if cut.all (fun c => decide (0 ≤ c ∧ c < 128)) = true ∧ 2 ≤ cut.length ∧ cut.length < 1000 ∧ s.length ≤ 9223372036854775807 then some (lB ⟨(Lib.trimS (bstr s).data.toList (bstr cut).data.toList).toArray⟩) else none
def bstrM (x : List Int) : Option (List Int) := if x ≠ [] ∧ x.all (fun v => decide (0 ≤ v ∧ v < 256)) = true then some x else none
end SX
