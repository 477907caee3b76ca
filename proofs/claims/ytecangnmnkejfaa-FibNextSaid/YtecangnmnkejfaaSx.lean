/- A layer of rules for walking Go code: what a frame's slots hold, what blocks and rows of the heap hold; each rule speaks of a plain model's value. -/
import Derived.WalkKit
import Derived.TacticsIn
import Derived.RangeFuncCalls
import Derived.KernelRfl
import Derived.Shelf.Abstract
import Derived.OrdersHeld
import Derived.RangeFuncLeaves
import Derived.RangeFuncRecord
import Derived.RangeFuncSeq
import Derived.OrdersIn
import Derived.ProofKit
import Derived.Lib.SmallJoins
/- A library for walking Go code in the model: symbolic frames and symbolic heaps. It proves nothing of any program by itself. -/
namespace SX
open Go

/-! ### Worlds that keep blocks -/
structure Keeps (M : List Nat) (w w' : World) : Prop where
  os : w'.os = w.os
  tape : w'.tape = w.tape
  output : w'.output = w.output
  size : w.heap.size ≤ w'.heap.size
  block : ∀ k, k < w.heap.size → k ∉ M → w'.heap[k]? = w.heap[k]?

theorem Keeps.refl (M : List Nat) (w : World) : Keeps M w w := ⟨rfl, rfl, rfl, Nat.le_refl _, fun _ _ _ => rfl⟩
theorem Keeps.trans {M M' M'' : List Nat} {a b c : World} (h : Keeps M a b) (h' : Keeps M' b c) (hM : ∀ k ∈ M, k ∈ M'')
    (hM' : ∀ k ∈ M', k ∈ M'' ∨ a.heap.size ≤ k) : Keeps M'' a c :=
  ⟨h'.os.trans h.os, h'.tape.trans h.tape, h'.output.trans h.output, Nat.le_trans h.size h'.size, fun k hk hn =>
    (h'.block k (Nat.lt_of_lt_of_le hk h.size) (fun hm => by
      rcases hM' k hm with h1 | h1
      · exact hn h1
      · omega)).trans (h.block k hk (fun hm => hn (hM k hm)))⟩
theorem Keeps.below {w w' : World} (h : Keeps [] w w') : Go.RowKit.Below w.heap.size w w' :=
  ⟨h.os, h.tape, h.output, h.size, fun k hk => h.block k hk (by simp)⟩
theorem Keeps.alloc (M : List Nat) (w : World) (o : Obj) : Keeps M w (w.alloc o) :=
  ⟨rfl, rfl, rfl, by simp, fun k hk _ => Go.RowKit.Below.heap_alloc w o k hk⟩
theorem Keeps.of_heap {M : List Nat} {w w' : World} (os : w'.os = w.os) (tape : w'.tape = w.tape) (output : w'.output = w.output)
    (h : w'.heap = w.heap) : Keeps M w w' := ⟨os, tape, output, by rw [h]; exact Nat.le_refl _, fun _ _ _ => by rw [h]⟩
theorem Keeps.setCell {M : List Nat} (w : World) (a : Addr) (v : Value) (h : a.block ∈ M) : Keeps M w (w.setCell a v) :=
  ⟨rfl, rfl, rfl, by simp [World.setCell], fun k _ hn => Go.RowKit.Below.heap_setCell w a v k (fun e => hn (e ▸ h))⟩

/-- What holds of w and stays true whatever is written to the blocks M or to new blocks. -/
def Nec (w : World) (M : List Nat) (φ : World → Prop) : Prop := ∀ w', Keeps M w w' → φ w'
theorem Nec.here {w : World} {M : List Nat} {φ : World → Prop} (h : Nec w M φ) : φ w := h w (Keeps.refl _ _)
theorem Nec.step {w w1 : World} {M M1 : List Nat} {φ : World → Prop} (h : Nec w M φ) (hk : Keeps M w w1)
    (hM : ∀ k ∈ M1, k ∈ M ∨ w.heap.size ≤ k) : Nec w1 M1 φ :=
  fun w' h' => h w' (hk.trans h' (fun _ h => h) hM)
theorem Nec.less {w : World} {M M1 : List Nat} {φ : World → Prop} (h : Nec w M φ) (hM : ∀ k ∈ M1, k ∈ M) : Nec w M1 φ :=
  h.step (Keeps.refl _ _) fun k hk => .inl (hM k hk)
theorem Nec.imp {w : World} {M : List Nat} {φ ψ : World → Prop} (h : Nec w M φ) (hi : ∀ w, φ w → ψ w) : Nec w M ψ := fun w' h' => hi _ (h w' h')

/-! ### A slice that reads as cells -/
structure Cells (v : Value) (n size : Nat) (cs : List Value) (w : World) : Prop where
  val : ∃ a cap, v = .slice a n cap ∧ n ≤ cap ∧ cap ≤ maxLen ∧ (∀ ad, a = some ad → ad.spot = none) ∧
    (∀ j u, cs[j]? = some u → ∃ ad, a = some ad ∧ w.cell? ⟨ad.block, ad.off + j, none⟩ = some u)
  len : cs.length = n * size

/-! ### Owned rows and blocks -/
structure RowD where
  v : Value
  e : TypeId
  size : Nat
  n : Nat
  cs : List Value
def RowD.own (r : RowD) (w : World) : Prop := w.ownsRow 0 r.e r.size r.v r.n r.cs
/-- What lies in a block: cells (this is how all blocks are that the walk lays), or what is said here. -/
structure BlkD where
  g : Nat
  e : TypeId
  cs : List Value
  [ob : Inhabited (Option Obj)]
def BlkD.obj (b : BlkD) : Obj := match b.ob.default with | none => .cells b.cs.toArray b.e (0, 0) | some o => o
def BlkD.is (b : BlkD) (w : World) : Prop := w.heap[b.g]? = some b.obj
/-- A block that holds something else. -/
abbrev blkO (g : Nat) (o : Obj) : BlkD := @BlkD.mk g 0 [] ⟨some o⟩
def muts (B : List BlkD) (R : List RowD) : List Nat := B.map (·.g) ++ R.filterMap (·.v.ownBlock)

structure Hp (M0 : List Nat) (w0 w : World) (B : List BlkD) (R : List RowD) (F : List (World → Prop)) : Prop where
  keep : Keeps M0 w0 w
  blk : ∀ b ∈ B, b.is w
  row : ∀ r ∈ R, r.own w
  nodup : (muts B R).Nodup
  fresh : ∀ g ∈ muts B R, g ∈ M0 ∨ w0.heap.size ≤ g
  per : ∀ φ ∈ F, Nec w (muts B R) φ

theorem ownsRow_cells {w : World} {base : Nat} {e : TypeId} {size : Nat} {v : Value} {n : Nat} {xs : List Value} (h : w.ownsRow base e size v n xs) : Cells v n size xs w := by
  obtain ⟨hl, h⟩ := h
  rcases h with ⟨rfl, rfl⟩ | ⟨g, cap, cur, rfl, hb, hg, hn, hc, hs, ht⟩
  · exact ⟨⟨none, 0, rfl, Nat.le_refl _, by simp, by simp, fun j u hj => by simp at hl; subst hl; simp at hj⟩, hl⟩
  · refine ⟨⟨_, cap, rfl, hn, hc, by simp, fun j u hj => ⟨_, rfl, ?_⟩⟩, hl⟩
    have hjl : j < n * size := by have := (List.getElem?_eq_some_iff.1 hj).1; omega
    have : cur[j]? = some u := by
      rw [← ht, List.getElem?_take_of_lt hjl] at hj
      simpa using hj
    simp [World.cell?, hg, this]


/-! ### Frames -/
abbrev Env := List (Nat × Value)
def look : Env → Nat → Option Value
  | [], _ => none
  | p :: l, i => bif Nat.beq p.1 i then some p.2 else look l i
structure Fr (n : Nat) (D : List Deferred) (a : Act) (l : Env) : Prop where
  defers : a.defers = D
  size : a.tmps.size = n
  val : ∀ i v, look l i = some v → a.tmps[i]? = some v
def ev (l : Env) : Operand → Option Value
  | .tmp t => look l t
  | .const v => some v
  | .func f => some (.func (.func f) #[] #[])
  | .global _ => none
theorem Fr.ev {n : Nat} {D : List Deferred} {a : Act} {l : Env} (h : Fr n D a l) {x : Operand} {v : Value} (hx : SX.ev l x = some v) : a.eval x = v := by
  cases x with
  | tmp t => have := h.val t v hx; simp [Act.eval, Array.getD_eq_getD_getElem?, this]
  | const c => simpa [SX.ev, Act.eval] using hx
  | func f => simpa [SX.ev, Act.eval] using hx
  | global g => simp [SX.ev] at hx
theorem look_cons {d i : Nat} {v : Value} {l : Env} : look ((d, v) :: l) i = if d = i then some v else look l i := by
  simp only [look]
  by_cases h : d = i
  · simp [h]
  · have : Nat.beq d i = false := by
      cases hb : Nat.beq d i
      · rfl
      · exact absurd (Nat.eq_of_beq_eq_true hb) h
    simp [this, h]
theorem Fr.put {n : Nat} {D : List Deferred} {a : Act} {l : Env} (h : Fr n D a l) {d : Nat} (hd : Nat.blt d n = true) (v : Value) : Fr n D (a.put (some d) v) ((d, v) :: l) := by
  have hd' : d < n := by simpa [Nat.blt_eq] using hd
  refine ⟨h.defers, by simpa [Act.put] using h.size, fun i u hu => ?_⟩
  rw [look_cons] at hu
  simp only [Act.put]
  by_cases hi : d = i
  · subst hi
    simp at hu
    subst hu
    rw [Array.getElem?_setIfInBounds]
    simp [h.size, hd']
  · simp only [hi, if_false] at hu
    rw [Array.getElem?_setIfInBounds]
    simp [hi, h.val i u hu]
theorem Fr.put_none {n : Nat} {D : List Deferred} {a : Act} {l : Env} (h : Fr n D a l) (v : Value) : Fr n D (a.put none v) l := h
/-- A slot that a test has decided. -/
theorem Fr.again {n : Nat} {D : List Deferred} {a : Act} {l : Env} (h : Fr n D a l) {d : Nat} {u v : Value} (hu : look l d = some u) (he : u = v) : Fr n D a ((d, v) :: l) := by
  refine ⟨h.defers, h.size, fun i x hx => ?_⟩
  rw [look_cons] at hx
  by_cases hi : d = i
  · subst hi; simp at hx; subst hx; subst he; exact h.val _ _ hu
  · simp only [hi, if_false] at hx; exact h.val _ _ hx
theorem Fr.less {n : Nat} {D : List Deferred} {a : Act} {l l' : Env} (h : Fr n D a l) (hs : ∀ p ∈ l', look l p.1 = some p.2) : Fr n D a l' := by
  refine ⟨h.defers, h.size, fun i v hv => h.val i v ?_⟩
  clear h
  induction l' with
  | nil => simp [look] at hv
  | cons p l' ih =>
    obtain ⟨d, u⟩ := p
    rw [look_cons] at hv
    by_cases hi : d = i
    · subst hi; simp at hv; subst hv; exact hs (d, u) (by simp)
    · simp only [hi, if_false] at hv; exact ih (fun p hp => hs p (by simp [hp])) hv

/-! ### The walk, in a frame of its own or in a round -/
def Wd (ro : Option Nat) : Fence := { fn := fun _ => True, depth := none, alive := false, round := ro }
def gwp (ro : Option Nat) (P : Program) (c : Code) (Q : Exit → Act → World → Prop) (a : Act) (w : World) : Prop := c.wpIn (Wd ro) 0 P Q a w
def gwpList (ro : Option Nat) (P : Program) (ops : Array Oper) (Q : Exit → Act → World → Prop) (os : List Oper) (a : Act) (w : World) : Prop := wpListIn (Wd ro) 0 P ops Q os a w
section
variable {P : Program} {ro : Option Nat} {ops : Array Oper} {Q : Exit → Act → World → Prop} {rest : List Oper} {o : Oper} {a : Act} {w w' : World}
theorem gwpList_in (hw : Region.wanted o (yielded ops a.tmps) = true) (hc : ∀ c, o.op ≠ .defer c) (h : o.uponIn (Wd ro) 0 P a (gwpList ro P ops Q rest) Q ((execOp a.eval o).run P w)) : gwpList ro P ops Q (o :: rest) a w := by
  unfold gwpList wpListIn
  rw [if_pos hw]
  refine ⟨fun _ _ => trivial, ?_⟩
  rw [Oper.semAt_eq _ _ _ hc]
  exact h
theorem gwpList_skip (hw : Region.wanted o (yielded ops a.tmps) = false) (h : gwpList ro P ops Q rest (a.put o.dst undef) w) : gwpList ro P ops Q (o :: rest) a w := by
  unfold gwpList wpListIn
  rw [if_neg (by rw [hw]; simp)]
  exact ⟨fun _ _ => trivial, h⟩
theorem gwpList_value {v : Value} (hw : Region.wanted o (yielded ops a.tmps) = true) (hc : ∀ c, o.op ≠ .defer c) (hr : (execOp a.eval o).run P w = .ok (.value v) w') (h : gwpList ro P ops Q rest (a.put o.dst v) w') : gwpList ro P ops Q (o :: rest) a w := by
  refine gwpList_in hw hc ?_
  rw [hr]
  exact h
theorem gwpList_unit (hw : Region.wanted o (yielded ops a.tmps) = true) (hc : ∀ c, o.op ≠ .defer c) (hr : (execOp a.eval o).run P w = .ok .skip w') (h : gwpList ro P ops Q rest (a.put o.dst undef) w') : gwpList ro P ops Q (o :: rest) a w := by
  refine gwpList_in hw hc ?_
  rw [hr]
  exact h
theorem gwpList_call {f : FuncId} {args : Array Value} (hw : Region.wanted o (yielded ops a.tmps) = true) (hc : ∀ c, o.op ≠ .defer c) (hr : (execOp a.eval o).run P w = .ok (.enter f args) w)
    (h : Calls P f args w fun e w' => ∃ v, e = .returned v ∧ gwpList ro P ops Q rest (a.put o.dst v) w') : gwpList ro P ops Q (o :: rest) a w := by
  refine gwpList_in hw hc ?_
  rw [hr]
  refine ⟨fun hd => by simp [Wd] at hd, ?_⟩
  have h' := (callsIn_wide (n := 0)).2 (h.mono (R' := fun
      | .returned v, w'' => gwpList ro P ops Q rest (a.put o.dst v) w''
      | .panicked chain, w'' => Q (.panic chain) a w''
      | .outgrown, _ => LetsOut Q) fun e w' ⟨v, he, hk⟩ => by subst he; exact hk)
  exact h'
theorem gwp_mono {c : Code} {Q' : Exit → Act → World → Prop} (h : gwp ro P c Q a w) (hq : ∀ e a w, Q e a w → Q' e a w) : gwp ro P c Q' a w := wpIn_mono h hq
theorem gwp_none {c : Code} : gwp none P c Q a w ↔ c.wp P Q a w := wpIn_wide
end

/-! ### The judgements: 'if the model gives r, the code does as is asked' -/
section
variable (P : Program) (ro : Option Nat) (n : Nat) (D : List Deferred) (M0 : List Nat) (w0 : World) (Q : Exit → Act → World → Prop)
def SXO {ρ : Type} (ops : Array Oper) (rest : List Oper) (l : Env) (B : List BlkD) (R : List RowD) (F : List (World → Prop)) (m : Option ρ) (r : ρ) : Prop :=
  m = some r → ∀ a w, Fr n D a l → Hp M0 w0 w B R F → gwpList ro P ops Q rest a w
def SXC {ρ : Type} (c : Code) (l : Env) (B : List BlkD) (R : List RowD) (F : List (World → Prop)) (m : Option ρ) (r : ρ) : Prop :=
  m = some r → ∀ a w, Fr n D a l → Hp M0 w0 w B R F → gwp ro P c Q a w
def SXQ {ρ : Type} (e : Exit) (l : Env) (B : List BlkD) (R : List RowD) (F : List (World → Prop)) (m : Option ρ) (r : ρ) : Prop :=
  m = some r → ∀ a w, Fr n D a l → Hp M0 w0 w B R F → Q e a w
end

/-! ### Models -/
def chk {ρ : Type} (c : Bool) (m : Option ρ) : Option ρ := if c then m else none
def lett {α ρ : Type} (x : α) (k : α → Option ρ) : Option ρ := k x
def idx {α : Type} (xs : List α) (i : Int) : Option α := if 0 ≤ i then xs[i.toNat]? else none

abbrev i64 := IntKind.i64
def iadd (k : IntKind) (a b : Int) : Int := k.wrap (a + b)
def isub (k : IntKind) (a b : Int) : Int := k.wrap (a - b)
def imul (k : IntKind) (a b : Int) : Int := k.wrap (a * b)
def iand (k : IntKind) (a b : Int) : Int := k.wrap (BitVec.ofInt k.bits a &&& BitVec.ofInt k.bits b).toNat
def ior (k : IntKind) (a b : Int) : Int := k.wrap (BitVec.ofInt k.bits a ||| BitVec.ofInt k.bits b).toNat
def ixor (k : IntKind) (a b : Int) : Int := k.wrap (BitVec.ofInt k.bits a ^^^ BitVec.ofInt k.bits b).toNat
def iandn (k : IntKind) (a b : Int) : Int := k.wrap (BitVec.ofInt k.bits a &&& ~~~ BitVec.ofInt k.bits b).toNat
def iquo (k : IntKind) (a b : Int) : Int := k.wrap (a.tdiv b)
def irem (a b : Int) : Int := a.tmod b
def ishl (k : IntKind) (a b : Int) : Int := k.wrap (a * 2 ^ (min b.toNat k.bits))
def ishr (k : IntKind) (a b : Int) : Int := a.fdiv (2 ^ (min b.toNat k.bits))
def iconv (k : IntKind) (a : Int) : Int := k.wrap a

theorem run_equal_bool {P : Program} {t : TypeId} (ht : P.underlying t = some .bool) (a b : Bool) (w : World) : (Op.equal t (.bool a) (.bool b)).run P w = .ok (a == b) w := by
  have : ∀ d, (Op.equalIn (d + 1) t (.bool a) (.bool b)).run P w = .ok (a == b) w := fun d => by simp [Op.equalIn, run_underlying ht]
  exact this 9999

section rules
variable {P : Program} {ro : Option Nat} {n : Nat} {D : List Deferred} {M0 : List Nat} {w0 : World} {Q : Exit → Act → World → Prop} {ρ : Type}
variable {ops : Array Oper} {rest : List Oper} {l : Env} {B : List BlkD} {R : List RowD} {F : List (World → Prop)} {m : Option ρ} {r : ρ}

theorem sxo_chk {c : Bool} (h : c = true → SXO P ro n D M0 w0 Q ops rest l B R F m r) : SXO P ro n D M0 w0 Q ops rest l B R F (chk c m) r := by
  intro hm
  cases c
  · simp [chk] at hm
  · exact h rfl (by simpa [chk] using hm)
theorem sxo_lett {α : Type} {x : α} {k : α → Option ρ} (h : ∀ y, y = x → SXO P ro n D M0 w0 Q ops rest l B R F (k y) r) : SXO P ro n D M0 w0 Q ops rest l B R F (lett x k) r :=
  fun hm => h x rfl hm
theorem sxo_bind {α : Type} {x : Option α} {k : α → Option ρ} (h : ∀ y, x = some y → SXO P ro n D M0 w0 Q ops rest l B R F (k y) r) : SXO P ro n D M0 w0 Q ops rest l B R F (x.bind k) r := by
  intro hm
  cases x with
  | none => simp at hm
  | some y => exact h y rfl hm
theorem sxo_if {c : Bool} {m1 m2 : Option ρ} (h1 : c = true → SXO P ro n D M0 w0 Q ops rest l B R F m1 r) (h2 : c = false → SXO P ro n D M0 w0 Q ops rest l B R F m2 r) :
    SXO P ro n D M0 w0 Q ops rest l B R F (if c then m1 else m2) r := by
  intro hm
  cases c
  · exact h2 rfl (by simpa using hm)
  · exact h1 rfl (by simpa using hm)
/-- A slot's value is another spelling of the same. -/
theorem sxo_again {d : Nat} {u v : Value} (hu : look l d = some u) (he : u = v) (h : SXO P ro n D M0 w0 Q ops rest ((d, v) :: l) B R F m r) : SXO P ro n D M0 w0 Q ops rest l B R F m r :=
  fun hm a w hf hp => h hm a w (hf.again hu he) hp
theorem sxo_nil (h : SXQ n D M0 w0 Q .normal l B R F m r) : SXO P ro n D M0 w0 Q ops [] l B R F m r :=
  fun hm a w hf hp => h hm a w hf hp

/-- Is the operation wanted (its guard)? -/
def calm (o : Oper) : Bool := match o.op with | .defer _ => false | _ => true
def wants (ops : Array Oper) (l : Env) (o : Oper) : Option Bool :=
  bif !calm o then none else
  match o.guard with
  | none => some true
  | some (j, want) =>
    match ((ops[j]?).bind (·.dst)).bind (look l) with
    | some (.bool b) => some (b == want)
    | some (.tuple _) => some false
    | _ => none
theorem wants_calm {o : Oper} {b : Bool} (h : wants ops l o = some b) : ∀ c, o.op ≠ .defer c := by
  intro c hc
  unfold wants calm at h
  rw [hc] at h
  simp at h
theorem wants_sound {a : Act} {o : Oper} {b : Bool} (hf : Fr n D a l) (h : wants ops l o = some b) : Region.wanted o (yielded ops a.tmps) = b := by
  unfold wants at h
  cases hcalm : calm o with
  | false => rw [hcalm] at h; simp at h
  | true =>
  rw [hcalm] at h
  simp only [Bool.not_true, cond_false] at h
  unfold Region.wanted
  split at h
  · rename_i hg; rw [hg]; simpa using h
  · rename_i j want hg
    rw [hg]
    simp only
    unfold yielded
    cases hd : (ops[j]?).bind (·.dst) with
    | none => rw [hd] at h; simp at h
    | some d =>
      rw [hd] at h
      simp only [Option.bind_some] at h ⊢
      cases hl : look l d with
      | none => rw [hl] at h; simp at h
      | some v =>
        rw [hl] at h
        rw [hf.val d v hl]
        cases v <;> simp_all
theorem sxo_skip {o : Oper} {d : Nat} (hw : wants ops l o = some false) (hdst : o.dst = some d) (hd : Nat.blt d n = true) (h : SXO P ro n D M0 w0 Q ops rest ((d, undef) :: l) B R F m r) :
    SXO P ro n D M0 w0 Q ops (o :: rest) l B R F m r := by
  intro hm a w hf hp
  refine gwpList_skip (wants_sound hf hw) ?_
  rw [hdst]
  exact h hm _ _ (hf.put hd _) hp
/-- The general rule: the operation yields a value; the heap may have turned. -/
theorem sxo_gen {o : Oper} (hw : wants ops l o = some true)
    (h : m = some r → ∀ a w, Fr n D a l → Hp M0 w0 w B R F → ∃ v w', (execOp a.eval o).run P w = .ok (.value v) w' ∧ gwpList ro P ops Q rest (a.put o.dst v) w') :
    SXO P ro n D M0 w0 Q ops (o :: rest) l B R F m r := by
  intro hm a w hf hp
  obtain ⟨v, w', hr, hk⟩ := h hm a w hf hp
  refine gwpList_value (wants_sound hf hw) (wants_calm hw) hr hk
theorem sxo_val {o : Oper} {d : Nat} (V : Value) (hw : wants ops l o = some true) (hdst : o.dst = some d) (hd : Nat.blt d n = true)
    (hrun : ∀ a w, Fr n D a l → Hp M0 w0 w B R F → (execOp a.eval o).run P w = .ok (.value V) w)
    (h : SXO P ro n D M0 w0 Q ops rest ((d, V) :: l) B R F m r) : SXO P ro n D M0 w0 Q ops (o :: rest) l B R F m r :=
  sxo_gen hw fun hm a w hf hp => ⟨V, w, hrun a w hf hp, by rw [hdst]; exact h hm _ _ (hf.put hd _) hp⟩

section pure
variable {d : Nat} {t t' : TypeId} {pos : String} {af : Array Edge} {gd : Option (Nat × Bool)}
theorem sxo_move {x : Operand} {V : Value} (hw : wants ops l ⟨some d, .move x, t, pos, af, gd⟩ = some true) (hx : ev l x = some V) (hd : Nat.blt d n = true)
    (h : SXO P ro n D M0 w0 Q ops rest ((d, V) :: l) B R F m r) : SXO P ro n D M0 w0 Q ops (⟨some d, .move x, t, pos, af, gd⟩ :: rest) l B R F m r :=
  sxo_val V hw rfl hd (fun a w hf _ => by show Result.ok (Next.value (a.eval x)) w = _; rw [hf.ev hx]) h
theorem sxo_assign {x : Operand} {V : Value} (hw : wants ops l ⟨some d, .assign x, t, pos, af, gd⟩ = some true) (hx : ev l x = some V) (hd : Nat.blt d n = true)
    (h : SXO P ro n D M0 w0 Q ops rest ((d, V) :: l) B R F m r) : SXO P ro n D M0 w0 Q ops (⟨some d, .assign x, t, pos, af, gd⟩ :: rest) l B R F m r :=
  sxo_val V hw rfl hd (fun a w hf _ => by show Result.ok (Next.value (a.eval x)) w = _; rw [hf.ev hx]) h
theorem sxo_pick {c x y : Operand} {b : Bool} {V : Value} (hw : wants ops l ⟨some d, .pick c x y, t, pos, af, gd⟩ = some true) (hc : ev l c = some (.bool b)) (hx : ev l (bif b then x else y) = some V) (hd : Nat.blt d n = true)
    (h : SXO P ro n D M0 w0 Q ops rest ((d, V) :: l) B R F m r) : SXO P ro n D M0 w0 Q ops (⟨some d, .pick c x y, t, pos, af, gd⟩ :: rest) l B R F m r :=
  sxo_val V hw rfl hd (fun a w hf _ => by
    have h1 := hf.ev hc
    have h2 := hf.ev hx
    generalize a.eval = e at h1 h2 ⊢
    cases b <;> simp_all [execOp, go_sem, asBool]) h
theorem sxo_add {x y : Operand} {xt yt : TypeId} {k : IntKind} {a b : Int} (hw : wants ops l ⟨some d, .binOp .add xt x y yt, t, pos, af, gd⟩ = some true) (hx : ev l x = some (.int k a)) (hy : ev l y = some (.int k b)) (hd : Nat.blt d n = true)
    (h : SXO P ro n D M0 w0 Q ops rest ((d, .int k (iadd k a b)) :: l) B R F m r) : SXO P ro n D M0 w0 Q ops (⟨some d, .binOp .add xt x y yt, t, pos, af, gd⟩ :: rest) l B R F m r :=
  sxo_val (.int k (iadd k a b)) hw rfl hd (fun a w hf _ => by
    have h1 := hf.ev hx
    have h2 := hf.ev hy
    generalize a.eval = e at h1 h2 ⊢
    simp [execOp, h1, h2, eqGuard, binOp, Op.intArith, iadd, go_sem]) h
theorem sxo_sub {x y : Operand} {xt yt : TypeId} {k : IntKind} {a b : Int} (hw : wants ops l ⟨some d, .binOp .sub xt x y yt, t, pos, af, gd⟩ = some true) (hx : ev l x = some (.int k a)) (hy : ev l y = some (.int k b)) (hd : Nat.blt d n = true)
    (h : SXO P ro n D M0 w0 Q ops rest ((d, .int k (isub k a b)) :: l) B R F m r) : SXO P ro n D M0 w0 Q ops (⟨some d, .binOp .sub xt x y yt, t, pos, af, gd⟩ :: rest) l B R F m r :=
  sxo_val (.int k (isub k a b)) hw rfl hd (fun a w hf _ => by
    have h1 := hf.ev hx
    have h2 := hf.ev hy
    generalize a.eval = e at h1 h2 ⊢
    simp [execOp, h1, h2, eqGuard, binOp, Op.intArith, isub, go_sem]) h
theorem sxo_mul {x y : Operand} {xt yt : TypeId} {k : IntKind} {a b : Int} (hw : wants ops l ⟨some d, .binOp .mul xt x y yt, t, pos, af, gd⟩ = some true) (hx : ev l x = some (.int k a)) (hy : ev l y = some (.int k b)) (hd : Nat.blt d n = true)
    (h : SXO P ro n D M0 w0 Q ops rest ((d, .int k (imul k a b)) :: l) B R F m r) : SXO P ro n D M0 w0 Q ops (⟨some d, .binOp .mul xt x y yt, t, pos, af, gd⟩ :: rest) l B R F m r :=
  sxo_val (.int k (imul k a b)) hw rfl hd (fun a w hf _ => by
    have h1 := hf.ev hx
    have h2 := hf.ev hy
    generalize a.eval = e at h1 h2 ⊢
    simp [execOp, h1, h2, eqGuard, binOp, Op.intArith, imul, go_sem]) h
theorem sxo_and {x y : Operand} {xt yt : TypeId} {k : IntKind} {a b : Int} (hw : wants ops l ⟨some d, .binOp .and xt x y yt, t, pos, af, gd⟩ = some true) (hx : ev l x = some (.int k a)) (hy : ev l y = some (.int k b)) (hd : Nat.blt d n = true)
    (h : SXO P ro n D M0 w0 Q ops rest ((d, .int k (iand k a b)) :: l) B R F m r) : SXO P ro n D M0 w0 Q ops (⟨some d, .binOp .and xt x y yt, t, pos, af, gd⟩ :: rest) l B R F m r :=
  sxo_val (.int k (iand k a b)) hw rfl hd (fun a w hf _ => by
    have h1 := hf.ev hx
    have h2 := hf.ev hy
    generalize a.eval = e at h1 h2 ⊢
    simp [execOp, h1, h2, eqGuard, binOp, Op.intBits, iand, go_sem]) h
theorem sxo_or {x y : Operand} {xt yt : TypeId} {k : IntKind} {a b : Int} (hw : wants ops l ⟨some d, .binOp .or xt x y yt, t, pos, af, gd⟩ = some true) (hx : ev l x = some (.int k a)) (hy : ev l y = some (.int k b)) (hd : Nat.blt d n = true)
    (h : SXO P ro n D M0 w0 Q ops rest ((d, .int k (ior k a b)) :: l) B R F m r) : SXO P ro n D M0 w0 Q ops (⟨some d, .binOp .or xt x y yt, t, pos, af, gd⟩ :: rest) l B R F m r :=
  sxo_val (.int k (ior k a b)) hw rfl hd (fun a w hf _ => by
    have h1 := hf.ev hx
    have h2 := hf.ev hy
    generalize a.eval = e at h1 h2 ⊢
    simp [execOp, h1, h2, eqGuard, binOp, Op.intBits, ior, go_sem]) h
theorem sxo_xor {x y : Operand} {xt yt : TypeId} {k : IntKind} {a b : Int} (hw : wants ops l ⟨some d, .binOp .xor xt x y yt, t, pos, af, gd⟩ = some true) (hx : ev l x = some (.int k a)) (hy : ev l y = some (.int k b)) (hd : Nat.blt d n = true)
    (h : SXO P ro n D M0 w0 Q ops rest ((d, .int k (ixor k a b)) :: l) B R F m r) : SXO P ro n D M0 w0 Q ops (⟨some d, .binOp .xor xt x y yt, t, pos, af, gd⟩ :: rest) l B R F m r :=
  sxo_val (.int k (ixor k a b)) hw rfl hd (fun a w hf _ => by
    have h1 := hf.ev hx
    have h2 := hf.ev hy
    generalize a.eval = e at h1 h2 ⊢
    simp [execOp, h1, h2, eqGuard, binOp, Op.intBits, ixor, go_sem]) h
theorem sxo_andNot {x y : Operand} {xt yt : TypeId} {k : IntKind} {a b : Int} (hw : wants ops l ⟨some d, .binOp .andNot xt x y yt, t, pos, af, gd⟩ = some true) (hx : ev l x = some (.int k a)) (hy : ev l y = some (.int k b)) (hd : Nat.blt d n = true)
    (h : SXO P ro n D M0 w0 Q ops rest ((d, .int k (iandn k a b)) :: l) B R F m r) : SXO P ro n D M0 w0 Q ops (⟨some d, .binOp .andNot xt x y yt, t, pos, af, gd⟩ :: rest) l B R F m r :=
  sxo_val (.int k (iandn k a b)) hw rfl hd (fun a w hf _ => by
    have h1 := hf.ev hx
    have h2 := hf.ev hy
    generalize a.eval = e at h1 h2 ⊢
    simp [execOp, h1, h2, eqGuard, binOp, Op.intBits, iandn, go_sem]) h
theorem sxo_lss {x y : Operand} {xt yt : TypeId} {k : IntKind} {a b : Int} (hw : wants ops l ⟨some d, .binOp .lss xt x y yt, t, pos, af, gd⟩ = some true) (hx : ev l x = some (.int k a)) (hy : ev l y = some (.int k b)) (hd : Nat.blt d n = true)
    (h : SXO P ro n D M0 w0 Q ops rest ((d, .bool (decide (a < b))) :: l) B R F m r) : SXO P ro n D M0 w0 Q ops (⟨some d, .binOp .lss xt x y yt, t, pos, af, gd⟩ :: rest) l B R F m r :=
  sxo_val (.bool (decide (a < b))) hw rfl hd (fun a w hf _ => by
    have h1 := hf.ev hx
    have h2 := hf.ev hy
    generalize a.eval = e at h1 h2 ⊢
    simp [execOp, h1, h2, eqGuard, binOp, Op.intCmp, go_sem]) h
theorem sxo_leq {x y : Operand} {xt yt : TypeId} {k : IntKind} {a b : Int} (hw : wants ops l ⟨some d, .binOp .leq xt x y yt, t, pos, af, gd⟩ = some true) (hx : ev l x = some (.int k a)) (hy : ev l y = some (.int k b)) (hd : Nat.blt d n = true)
    (h : SXO P ro n D M0 w0 Q ops rest ((d, .bool (decide (a ≤ b))) :: l) B R F m r) : SXO P ro n D M0 w0 Q ops (⟨some d, .binOp .leq xt x y yt, t, pos, af, gd⟩ :: rest) l B R F m r :=
  sxo_val (.bool (decide (a ≤ b))) hw rfl hd (fun a w hf _ => by
    have h1 := hf.ev hx
    have h2 := hf.ev hy
    generalize a.eval = e at h1 h2 ⊢
    simp [execOp, h1, h2, eqGuard, binOp, Op.intCmp, go_sem]) h
theorem sxo_gtr {x y : Operand} {xt yt : TypeId} {k : IntKind} {a b : Int} (hw : wants ops l ⟨some d, .binOp .gtr xt x y yt, t, pos, af, gd⟩ = some true) (hx : ev l x = some (.int k a)) (hy : ev l y = some (.int k b)) (hd : Nat.blt d n = true)
    (h : SXO P ro n D M0 w0 Q ops rest ((d, .bool (decide (b < a))) :: l) B R F m r) : SXO P ro n D M0 w0 Q ops (⟨some d, .binOp .gtr xt x y yt, t, pos, af, gd⟩ :: rest) l B R F m r :=
  sxo_val (.bool (decide (b < a))) hw rfl hd (fun a w hf _ => by
    have h1 := hf.ev hx
    have h2 := hf.ev hy
    generalize a.eval = e at h1 h2 ⊢
    simp [execOp, h1, h2, eqGuard, binOp, Op.intCmp, go_sem]) h
theorem sxo_geq {x y : Operand} {xt yt : TypeId} {k : IntKind} {a b : Int} (hw : wants ops l ⟨some d, .binOp .geq xt x y yt, t, pos, af, gd⟩ = some true) (hx : ev l x = some (.int k a)) (hy : ev l y = some (.int k b)) (hd : Nat.blt d n = true)
    (h : SXO P ro n D M0 w0 Q ops rest ((d, .bool (decide (b ≤ a))) :: l) B R F m r) : SXO P ro n D M0 w0 Q ops (⟨some d, .binOp .geq xt x y yt, t, pos, af, gd⟩ :: rest) l B R F m r :=
  sxo_val (.bool (decide (b ≤ a))) hw rfl hd (fun a w hf _ => by
    have h1 := hf.ev hx
    have h2 := hf.ev hy
    generalize a.eval = e at h1 h2 ⊢
    simp [execOp, h1, h2, eqGuard, binOp, Op.intCmp, go_sem]) h
theorem sxo_eql {x y : Operand} {xt yt : TypeId} {k : IntKind} {a b : Int} (hw : wants ops l ⟨some d, .binOp .eql xt x y yt, t, pos, af, gd⟩ = some true) (hx : ev l x = some (.int k a)) (hy : ev l y = some (.int k b)) (hd : Nat.blt d n = true)
    (h : SXO P ro n D M0 w0 Q ops rest ((d, .bool (a == b)) :: l) B R F m r) : SXO P ro n D M0 w0 Q ops (⟨some d, .binOp .eql xt x y yt, t, pos, af, gd⟩ :: rest) l B R F m r :=
  sxo_val (.bool (a == b)) hw rfl hd (fun a w hf _ => by
    have h1 := hf.ev hx
    have h2 := hf.ev hy
    generalize a.eval = e at h1 h2 ⊢
    simp [execOp, h1, h2, eqGuard, binOp, Op.intCmp, go_sem]) h
theorem sxo_neq {x y : Operand} {xt yt : TypeId} {k : IntKind} {a b : Int} (hw : wants ops l ⟨some d, .binOp .neq xt x y yt, t, pos, af, gd⟩ = some true) (hx : ev l x = some (.int k a)) (hy : ev l y = some (.int k b)) (hd : Nat.blt d n = true)
    (h : SXO P ro n D M0 w0 Q ops rest ((d, .bool (a != b)) :: l) B R F m r) : SXO P ro n D M0 w0 Q ops (⟨some d, .binOp .neq xt x y yt, t, pos, af, gd⟩ :: rest) l B R F m r :=
  sxo_val (.bool (a != b)) hw rfl hd (fun a w hf _ => by
    have h1 := hf.ev hx
    have h2 := hf.ev hy
    generalize a.eval = e at h1 h2 ⊢
    simp [execOp, h1, h2, eqGuard, binOp, Op.intCmp, go_sem]) h
theorem sxo_quo {x y : Operand} {xt yt : TypeId} {k : IntKind} {a b : Int} (hw : wants ops l ⟨some d, .binOp .quo xt x y yt, t, pos, af, gd⟩ = some true) (hx : ev l x = some (.int k a)) (hy : ev l y = some (.int k b)) (hd : Nat.blt d n = true)
    (hb : (b != 0) = true) (h : SXO P ro n D M0 w0 Q ops rest ((d, .int k (iquo k a b)) :: l) B R F m r) : SXO P ro n D M0 w0 Q ops (⟨some d, .binOp .quo xt x y yt, t, pos, af, gd⟩ :: rest) l B R F m r :=
  sxo_val (.int k (iquo k a b)) hw rfl hd (fun a w hf _ => by
    have h1 := hf.ev hx
    have h2 := hf.ev hy
    have hb' : b ≠ 0 := by simpa using hb
    generalize a.eval = e at h1 h2 ⊢
    simp [execOp, h1, h2, eqGuard, binOp, Op.intDiv, iquo, hb', go_sem]) h
theorem sxo_rem {x y : Operand} {xt yt : TypeId} {k : IntKind} {a b : Int} (hw : wants ops l ⟨some d, .binOp .rem xt x y yt, t, pos, af, gd⟩ = some true) (hx : ev l x = some (.int k a)) (hy : ev l y = some (.int k b)) (hd : Nat.blt d n = true)
    (hb : (b != 0) = true) (h : SXO P ro n D M0 w0 Q ops rest ((d, .int k (irem a b)) :: l) B R F m r) : SXO P ro n D M0 w0 Q ops (⟨some d, .binOp .rem xt x y yt, t, pos, af, gd⟩ :: rest) l B R F m r :=
  sxo_val (.int k (irem a b)) hw rfl hd (fun a w hf _ => by
    have h1 := hf.ev hx
    have h2 := hf.ev hy
    have hb' : b ≠ 0 := by simpa using hb
    generalize a.eval = e at h1 h2 ⊢
    simp [execOp, h1, h2, eqGuard, binOp, Op.intDiv, irem, hb', go_sem]) h
theorem sxo_shl {x y : Operand} {xt yt : TypeId} {k k' : IntKind} {a b : Int} (hw : wants ops l ⟨some d, .binOp .shl xt x y yt, t, pos, af, gd⟩ = some true) (hx : ev l x = some (.int k a)) (hy : ev l y = some (.int k' b)) (hd : Nat.blt d n = true)
    (hb : decide (0 ≤ b) = true) (h : SXO P ro n D M0 w0 Q ops rest ((d, .int k (ishl k a b)) :: l) B R F m r) : SXO P ro n D M0 w0 Q ops (⟨some d, .binOp .shl xt x y yt, t, pos, af, gd⟩ :: rest) l B R F m r :=
  sxo_val (.int k (ishl k a b)) hw rfl hd (fun a w hf _ => by
    have h1 := hf.ev hx
    have h2 := hf.ev hy
    have hb' : ¬ b < 0 := by simpa using hb
    generalize a.eval = e at h1 h2 ⊢
    simp [execOp, h1, h2, eqGuard, binOp, Op.shift, ishl, hb', go_sem]) h
theorem sxo_shr {x y : Operand} {xt yt : TypeId} {k k' : IntKind} {a b : Int} (hw : wants ops l ⟨some d, .binOp .shr xt x y yt, t, pos, af, gd⟩ = some true) (hx : ev l x = some (.int k a)) (hy : ev l y = some (.int k' b)) (hd : Nat.blt d n = true)
    (hb : decide (0 ≤ b) = true) (h : SXO P ro n D M0 w0 Q ops rest ((d, .int k (ishr k a b)) :: l) B R F m r) : SXO P ro n D M0 w0 Q ops (⟨some d, .binOp .shr xt x y yt, t, pos, af, gd⟩ :: rest) l B R F m r :=
  sxo_val (.int k (ishr k a b)) hw rfl hd (fun a w hf _ => by
    have h1 := hf.ev hx
    have h2 := hf.ev hy
    have hb' : ¬ b < 0 := by simpa using hb
    generalize a.eval = e at h1 h2 ⊢
    simp [execOp, h1, h2, eqGuard, binOp, Op.shift, ishr, hb', go_sem]) h
theorem sxo_eqb {x y : Operand} {xt yt : TypeId} {p q' : Bool} (hw : wants ops l ⟨some d, .binOp .eql xt x y yt, t, pos, af, gd⟩ = some true) (ht : P.underlying xt = some .bool) (hx : ev l x = some (.bool p)) (hy : ev l y = some (.bool q')) (hd : Nat.blt d n = true)
    (h : SXO P ro n D M0 w0 Q ops rest ((d, .bool (p == q')) :: l) B R F m r) : SXO P ro n D M0 w0 Q ops (⟨some d, .binOp .eql xt x y yt, t, pos, af, gd⟩ :: rest) l B R F m r :=
  sxo_val (.bool (p == q')) hw rfl hd (fun a w hf _ => by
    have h1 := hf.ev hx
    have h2 := hf.ev hy
    have he := run_equal_bool ht p q' w
    generalize a.eval = e at h1 h2 ⊢
    generalize hq : Op.equal xt (.bool p) (.bool q') = q at he
    simp [execOp, h1, h2, eqGuard, binOp, hq, he, go_sem]) h
theorem sxo_neb {x y : Operand} {xt yt : TypeId} {p q' : Bool} (hw : wants ops l ⟨some d, .binOp .neq xt x y yt, t, pos, af, gd⟩ = some true) (ht : P.underlying xt = some .bool) (hx : ev l x = some (.bool p)) (hy : ev l y = some (.bool q')) (hd : Nat.blt d n = true)
    (h : SXO P ro n D M0 w0 Q ops rest ((d, .bool (p != q')) :: l) B R F m r) : SXO P ro n D M0 w0 Q ops (⟨some d, .binOp .neq xt x y yt, t, pos, af, gd⟩ :: rest) l B R F m r :=
  sxo_val (.bool (p != q')) hw rfl hd (fun a w hf _ => by
    have h1 := hf.ev hx
    have h2 := hf.ev hy
    have he := run_equal_bool ht p q' w
    generalize a.eval = e at h1 h2 ⊢
    generalize hq : Op.equal xt (.bool p) (.bool q') = q at he
    simp [execOp, h1, h2, eqGuard, binOp, hq, he, bne, go_sem]) h
theorem sxo_not {x : Operand} {xt : TypeId} {b : Bool} (hw : wants ops l ⟨some d, .unOp .not xt x, t, pos, af, gd⟩ = some true) (hx : ev l x = some (.bool b)) (hd : Nat.blt d n = true)
    (h : SXO P ro n D M0 w0 Q ops rest ((d, .bool (!b)) :: l) B R F m r) : SXO P ro n D M0 w0 Q ops (⟨some d, .unOp .not xt x, t, pos, af, gd⟩ :: rest) l B R F m r :=
  sxo_val (.bool (!b)) hw rfl hd (fun a w hf _ => by
    have h1 := hf.ev hx
    generalize a.eval = e at h1 ⊢
    simp [execOp, h1, Op.unary, go_sem]) h
theorem sxo_neg {x : Operand} {xt : TypeId} {k : IntKind} {b : Int} (hw : wants ops l ⟨some d, .unOp .neg xt x, t, pos, af, gd⟩ = some true) (hx : ev l x = some (.int k b)) (hd : Nat.blt d n = true)
    (h : SXO P ro n D M0 w0 Q ops rest ((d, .int k (isub k 0 b)) :: l) B R F m r) : SXO P ro n D M0 w0 Q ops (⟨some d, .unOp .neg xt x, t, pos, af, gd⟩ :: rest) l B R F m r :=
  sxo_val (.int k (isub k 0 b)) hw rfl hd (fun a w hf _ => by
    have h1 := hf.ev hx
    generalize a.eval = e at h1 ⊢
    simp [execOp, h1, Op.unary, Op.intArith, isub, go_sem]) h
theorem sxo_conv {x : Operand} {s t' : TypeId} {k k' : IntKind} {b : Int} {ds : TypeDesc} (hw : wants ops l ⟨some d, .convert s t' x, t, pos, af, gd⟩ = some true) (hs : P.underlying s = some ds) (ht : P.underlying t' = some (.int k)) (hx : ev l x = some (.int k' b)) (hd : Nat.blt d n = true)
    (h : SXO P ro n D M0 w0 Q ops rest ((d, .int k (iconv k b)) :: l) B R F m r) : SXO P ro n D M0 w0 Q ops (⟨some d, .convert s t' x, t, pos, af, gd⟩ :: rest) l B R F m r :=
  sxo_val (.int k (iconv k b)) hw rfl hd (fun a w hf _ => by
    have h1 := hf.ev hx
    generalize a.eval = e at h1 ⊢
    simp [execOp, h1, convert, run_underlying ht, run_underlying hs, Conv.intToInt, iconv, go_sem]) h
theorem sxo_len {x : Operand} {s e' : TypeId} {ao : Option Addr} {k c : Nat} (hw : wants ops l ⟨some d, .call ⟨.builtin .len, #[x], #[s]⟩, t, pos, af, gd⟩ = some true) (ht : P.underlying s = some (.slice e')) (hx : ev l x = some (.slice ao k c)) (hd : Nat.blt d n = true)
    (h : SXO P ro n D M0 w0 Q ops rest ((d, .int .i64 (k : Int)) :: l) B R F m r) : SXO P ro n D M0 w0 Q ops (⟨some d, .call ⟨.builtin .len, #[x], #[s]⟩, t, pos, af, gd⟩ :: rest) l B R F m r :=
  sxo_val (.int .i64 (k : Int)) hw rfl hd (fun a w hf _ => by
    have h1 := hf.ev hx
    generalize a.eval = e at h1 ⊢
    simp [h1, Builtin.len_, run_underlying ht, goInt, go_sem]) h
theorem sxo_extract {x : Operand} {i : Nat} {vs : Array Value} {V : Value} (hw : wants ops l ⟨some d, .extract x i, t, pos, af, gd⟩ = some true) (hx : ev l x = some (.tuple vs)) (hv : vs[i]? = some V) (hd : Nat.blt d n = true)
    (h : SXO P ro n D M0 w0 Q ops rest ((d, V) :: l) B R F m r) : SXO P ro n D M0 w0 Q ops (⟨some d, .extract x i, t, pos, af, gd⟩ :: rest) l B R F m r :=
  sxo_val V hw rfl hd (fun a w hf _ => by
    have h1 := hf.ev hx
    generalize a.eval = e at h1 ⊢
    simp [execOp, h1, Instr.extract, hv, go_sem]) h
end pure
end rules
end SX

namespace SX
open Go

/-! ### Facts on types -/
def isAggD : TypeDesc → Bool | .struct _ | .array _ _ => true | _ => false
structure TyF (P : Program) (t : TypeId) (agg : Bool) (z : Value) (size bytes : Nat) : Prop where
  und : ∃ d, P.underlying t = some d ∧ isAggD d = agg
  inf : ∃ i, P.info? t = some i ∧ i.zero = some z ∧ i.size = size ∧ i.bytes = bytes
theorem TyF.of {P : Program} {t : TypeId} {agg : Bool} {z : Value} {size bytes : Nat} (h : (P.underlying t).map isAggD = some agg)
    (h' : (P.info? t).map (fun i => (i.zero, i.size, i.bytes)) = some (some z, size, bytes)) : TyF P t agg z size bytes := by
  obtain ⟨d, hd, hda⟩ := Option.map_eq_some_iff.1 h
  exact ⟨⟨d, hd, hda⟩, info_parts h'⟩
structure FdF (P : Program) (s : TypeId) (i off : Nat) : Prop where
  out : ∃ fs f, P.underlying s = some (.struct fs) ∧ fs[i]? = some f ∧ f.offset = off ∧ ∃ j, P.info? f.type = some j ∧ j.size ≠ 0
theorem FdF.of {P : Program} {s : TypeId} {i off : Nat} (h : (match P.underlying s with
    | some (.struct fs) => (match fs[i]? with | some f => f.offset == off && (match P.info? f.type with | some j => j.size != 0 | none => false) | none => false)
    | _ => false) = true) : FdF P s i off := by
  split at h
  · rename_i fs hfs
    split at h
    · rename_i f hf
      simp only [Bool.and_eq_true, beq_iff_eq] at h
      obtain ⟨h1, h2⟩ := h
      split at h2
      · rename_i j hj
        exact ⟨fs, f, hfs, hf, h1, j, hj, by simpa using h2⟩
      · simp at h2
    · simp at h
  · simp at h

theorem TyF.run_isAgg {P : Program} {t : TypeId} {agg : Bool} {z : Value} {size bytes : Nat} (h : TyF P t agg z size bytes) (w : World) : (isAgg t).run P w = .ok agg w := by
  obtain ⟨d, hd, hda⟩ := h.und
  subst hda
  cases d <;> simp [isAgg, run_underlying hd, isAggD]
theorem TyF.run_info {P : Program} {t : TypeId} {agg : Bool} {z : Value} {size bytes : Nat} (h : TyF P t agg z size bytes) (w : World) : ∃ i, (typeInfo t).run P w = .ok i w ∧ i.zero = some z ∧ i.size = size ∧ i.bytes = bytes := by
  obtain ⟨i, hi, h1, h2, h3⟩ := h.inf
  exact ⟨i, by simp [typeInfo, hi], h1, h2, h3⟩
theorem TyF.run_size {P : Program} {t : TypeId} {agg : Bool} {z : Value} {size bytes : Nat} (h : TyF P t agg z size bytes) (w : World) : (Go.sizeOf t).run P w = .ok size w := by
  obtain ⟨i, hi, h1, h2, h3⟩ := h.inf
  simp [Go.sizeOf, typeInfo, hi, h2]
theorem TyF.run_zero {P : Program} {t : TypeId} {agg : Bool} {z : Value} {size bytes : Nat} (h : TyF P t agg z size bytes) (w : World) : (zeroValue t).run P w = .ok z w := by
  obtain ⟨i, hi, h1, h2, h3⟩ := h.inf
  simp [zeroValue, typeInfo, hi, h1]

/-- The cells from an offset on. -/
def CellsAt (b o : Nat) (cs : List Value) (w : World) : Prop := ∀ j u, cs[j]? = some u → w.cell? ⟨b, o + j, none⟩ = some u
theorem addr_add (b o n : Nat) : (⟨b, o, none⟩ : Addr).add n = ⟨b, o + n, none⟩ := by unfold Addr.add; split <;> simp_all
theorem addr_add' (a : Addr) (n : Nat) (h : a.spot = none) : a.add n = ⟨a.block, a.off + n, none⟩ := by
  obtain ⟨b, o, s⟩ := a; subst h; exact addr_add b o n
theorem run_loadVar {P : Program} {t : TypeId} {agg : Bool} {z : Value} {size bytes : Nat} (ht : TyF P t agg z size bytes) {b o : Nat} {cs : List Value} {w : World}
    (hc : CellsAt b o cs w) (hl : cs.length = size) {V : Value} (hV : V = if agg then .agg cs.toArray else cs.getD 0 undef) (hs : agg = false → size = 1) :
    (loadVar t ⟨b, o, none⟩).run P w = .ok V w := by
  subst hV
  cases agg
  · have h1 := hs rfl
    have hlen : cs.length = 1 := by omega
    obtain ⟨u, rfl⟩ := List.length_eq_one_iff.1 hlen
    have := hc 0 u rfl
    simp [loadVar, ht.run_isAgg w, load, Sem.run] at this ⊢
    simp [this]
  · have := run_loadCells_list (P := P) w ⟨b, o, none⟩ cs (fun j v hj => by rw [addr_add]; exact hc j v hj)
    rw [hl] at this
    simp [loadVar, ht.run_isAgg w, ht.run_size w, this]

def okCells (cs : List Value) : Bool := cs.all (·.oneCell')
theorem run_storeVar {P : Program} {t : TypeId} {agg : Bool} {z : Value} {size bytes : Nat} (ht : TyF P t agg z size bytes) {g o : Nat} {e : TypeId} {cur : Array Value} {w : World}
    (hg : w.heap[g]? = some (.cells cur e (0, 0))) {V : Value} (hl : V.cells.size = size) (ho : o + V.cells.size ≤ cur.size) (h1 : okCells V.cells.toList = true) :
    (storeVar t ⟨g, o, none⟩ V).run P w = .ok () (w.setRow g (cur.toList.take o ++ V.cells.toList ++ cur.toList.drop (o + V.cells.size)).toArray) := by
  have h1' : ∀ v ∈ V.cells.toList, v.oneCell' = true := List.all_eq_true.1 h1
  have hst := run_storeCells_at P g o e V.cells.toList 0 cur w hg (by simpa using ho) h1'
  simp only [Nat.add_zero, Array.length_toList] at hst
  have : ¬ V.cells.size ≠ size := by simp [hl]
  simp [storeVar, ht.run_size w, this, hst]

/-! ### How the heap's description turns -/
section hp
variable {M0 : List Nat} {w0 w : World} {B : List BlkD} {R : List RowD} {F : List (World → Prop)}
theorem mem_muts_lt (hb : ∀ b ∈ B, b.is w) (hr : ∀ r ∈ R, r.own w) : ∀ g ∈ muts B R, g < w.heap.size := by
  intro g hg
  rcases List.mem_append.1 hg with h | h
  · obtain ⟨b, hbm, rfl⟩ := List.mem_map.1 h
    exact (Array.getElem?_eq_some_iff.1 (hb b hbm)).1
  · obtain ⟨r, hrm, hr1⟩ := List.mem_filterMap.1 h
    exact ((hr r hrm).lt g hr1).2
theorem Hp.lt (h : Hp M0 w0 w B R F) : ∀ g ∈ muts B R, g < w.heap.size := mem_muts_lt h.blk h.row
theorem blk_kept {b : BlkD} {M : List Nat} {w w' : World} (h : b.is w) (hk : Keeps M w w') (hn : b.g ∉ M) : b.is w' := by
  have hlt := (Array.getElem?_eq_some_iff.1 h).1
  exact (hk.block b.g hlt hn).trans h
theorem row_kept {r : RowD} {M : List Nat} {w w' : World} (h : r.own w) (hk : Keeps M w w') (hn : ∀ g, r.v.ownBlock = some g → g ∉ M) : r.own w' := by
  refine ⟨h.1, ?_⟩
  rcases h.2 with hn' | ⟨g, cap, cur, hv, hb, hgg, rest⟩
  · exact .inl hn'
  · refine .inr ⟨g, cap, cur, hv, hb, ?_, rest⟩
    rw [hk.block g (Array.getElem?_eq_some_iff.1 hgg).1 (hn g (by rw [hv]; rfl))]
    exact hgg
theorem Keeps.wider {M M' : List Nat} {w w' : World} (h : Keeps M w w') (hM : ∀ k ∈ M, k ∈ M') : Keeps M' w w' :=
  ⟨h.os, h.tape, h.output, h.size, fun k hk hn => h.block k hk (fun hm => hn (hM k hm))⟩
/-- A step that turns nothing that was there. -/
theorem Hp.step {w' : World} (h : Hp M0 w0 w B R F) (hk : Keeps [] w w') : Hp M0 w0 w' B R F where
  keep := h.keep.trans hk (fun _ h => h) (by simp)
  blk := fun b hb => blk_kept (h.blk b hb) hk (by simp)
  row := fun r hr => row_kept (h.row r hr) hk (by simp)
  nodup := h.nodup
  fresh := h.fresh
  per := fun φ hφ => (h.per φ hφ).step (hk.wider (by simp)) (fun k hk => .inl hk)
/-- One mutable thing is exchanged for others; the step writes what was mutable alone. -/
theorem Hp.turn {w' : World} {B' : List BlkD} {R' : List RowD} (h : Hp M0 w0 w B R F) (S : List Nat) (hk : Keeps S w w') (hS : ∀ k ∈ S, k ∈ muts B R)
    (hb : ∀ b ∈ B', b.is w') (hr : ∀ r ∈ R', r.own w') (hnd : (muts B' R').Nodup) (hM : ∀ g ∈ muts B' R', g ∈ muts B R ∨ w.heap.size ≤ g) : Hp M0 w0 w' B' R' F where
  keep := h.keep.trans hk (fun _ h => h) (fun k hk => h.fresh k (hS k hk))
  blk := hb
  row := hr
  nodup := hnd
  fresh := fun g hg => by
    rcases hM g hg with h1 | h1
    · exact h.fresh g h1
    · exact .inr (Nat.le_trans h.keep.size h1)
  per := fun φ hφ => (h.per φ hφ).step (hk.wider hS) hM
theorem Hp.alloc (h : Hp M0 w0 w B R F) (cs : List Value) (e : TypeId) : Hp M0 w0 (w.alloc (.cells cs.toArray e)) (⟨w.heap.size, e, cs⟩ :: B) R F := by
  have hk := Keeps.alloc [] w (.cells cs.toArray e)
  refine h.turn [] hk (by simp) (fun b hb => ?_) (fun r hr => row_kept (h.row r hr) hk (by simp)) ?_ ?_
  · rcases List.mem_cons.1 hb with rfl | hb
    · exact heap_alloc_new w _
    · exact blk_kept (h.blk b hb) hk (by simp)
  · simp only [muts, List.map_cons, List.cons_append, List.nodup_cons]
    exact ⟨fun hm => by have := h.lt _ hm; omega, h.nodup⟩
  · intro g hg
    simp only [muts, List.map_cons, List.cons_append, List.mem_cons] at hg
    rcases hg with rfl | hg
    · exact .inr (Nat.le_refl _)
    · exact .inl hg
theorem muts_cons_row {r : RowD} : ∀ g, g ∈ muts B (r :: R) ↔ r.v.ownBlock = some g ∨ g ∈ muts B R := by
  intro g
  simp only [muts, List.mem_append, List.filterMap_cons]
  cases hv : r.v.ownBlock with
  | none => simp
  | some g' =>
    simp only [List.mem_cons, Option.some.injEq]
    constructor
    · rintro (h | h | h)
      · exact .inr (.inl h)
      · exact .inl h.symm
      · exact .inr (.inr h)
    · rintro (h | h | h)
      · exact .inr (.inl h.symm)
      · exact .inl h
      · exact .inr (.inr h)
theorem nodup_cons_row {r : RowD} (h : (muts B R).Nodup) (hn : ∀ g, r.v.ownBlock = some g → g ∉ muts B R) : (muts B (r :: R)).Nodup := by
  simp only [muts, List.filterMap_cons] at h hn ⊢
  cases hv : r.v.ownBlock with
  | none => exact h
  | some g =>
    have h1 := hn g hv
    simp only
    rw [List.nodup_append] at h ⊢
    simp only [List.mem_append, not_or] at h1
    refine ⟨h.1, List.nodup_cons.2 ⟨h1.2, h.2.1⟩, fun a ha b hb => ?_⟩
    rcases List.mem_cons.1 hb with rfl | hb
    · rintro rfl; exact h1.1 ha
    · exact h.2.2 a ha b hb
theorem Hp.addRow {w' : World} {r : RowD} (h : Hp M0 w0 w B R F) (hk : Keeps [] w w') (hr : r.own w') (hf : ∀ g, r.v.ownBlock = some g → w.heap.size ≤ g) : Hp M0 w0 w' B (r :: R) F := by
  refine h.turn [] hk (by simp) (fun b hb => blk_kept (h.blk b hb) hk (by simp)) (fun r' hr' => ?_) (nodup_cons_row h.nodup fun g hg hm => ?_) ?_
  · rcases List.mem_cons.1 hr' with rfl | hr'
    · exact hr
    · exact row_kept (h.row r' hr') hk (by simp)
  · have := h.lt g hm; have := hf g hg; omega
  · intro g hg
    rcases (muts_cons_row g).1 hg with h1 | h1
    · exact .inr (hf g h1)
    · exact .inl h1
theorem Hp.weaken {B' : List BlkD} {R' : List RowD} {F' : List (World → Prop)} (h : Hp M0 w0 w B R F) (hB : B'.Sublist B) (hR : R'.Sublist R) (hF : ∀ φ ∈ F', φ ∈ F) : Hp M0 w0 w B' R' F' := by
  have hm : (muts B' R').Sublist (muts B R) := (hB.map _).append (hR.filterMap _)
  exact { keep := h.keep, blk := fun b hb => h.blk b (hB.subset hb), row := fun r hr => h.row r (hR.subset hr), nodup := h.nodup.sublist hm, fresh := fun g hg => h.fresh g (hm.subset hg),
          per := fun φ hφ => (h.per φ (hF φ hφ)).less (fun k hk => hm.subset hk) }
theorem muts_set_blk {i : Nat} {b b' : BlkD} (hi : B[i]? = some b) (hg : b'.g = b.g) : muts (B.set i b') R = muts B R := by
  unfold muts
  congr 1
  rw [List.map_set, hg]
  apply List.ext_getElem?
  intro j
  rw [List.getElem?_set]
  split
  · rename_i hij; subst hij; split
    · simp [hi]
    · rename_i h2; simp at h2; simp [h2]
  · rfl
theorem nodup_get {B : List BlkD} {R : List RowD} (h : (muts B R).Nodup) {i j : Nat} {b b' : BlkD} (hi : B[i]? = some b) (hj : B[j]? = some b') (hg : b.g = b'.g) : i = j := by
  have hnd : (B.map (·.g)).Nodup := (List.nodup_append.1 h).1
  have h1 : (B.map (·.g))[i]? = some b.g := by simp [hi]
  have h2 : (B.map (·.g))[j]? = some b.g := by simp [hj, hg]
  have hi' := (List.getElem?_eq_some_iff.1 h1).1
  exact (List.getElem?_inj hi' hnd).1 (h1.trans h2.symm)
theorem Hp.setBlk {i g : Nat} {e : TypeId} {cs cs' : List Value} (h : Hp M0 w0 w B R F) (hi : B[i]? = some ⟨g, e, cs⟩) : Hp M0 w0 (w.setRow g cs'.toArray) (B.set i ⟨g, e, cs'⟩) R F := by
  have hm : (⟨g, e, cs⟩ : BlkD) ∈ B := List.mem_of_getElem? hi
  have hgm : g ∈ muts B R := List.mem_append.2 (.inl (List.mem_map.2 ⟨_, hm, rfl⟩))
  have hk : Keeps [g] w (w.setRow g cs'.toArray) := ⟨rfl, rfl, rfl, by simp, fun k _ hn => setRow_other w g k _ (fun e => hn (by simp [e]))⟩
  have hmu := muts_set_blk (R := R) (b' := ⟨g, e, cs'⟩) hi rfl
  refine h.turn [g] hk (by simpa using hgm) (fun b hb => ?_) (fun r hr => row_kept (h.row r hr) hk fun g' hg' => ?_) (hmu ▸ h.nodup) (fun k hk => .inl (hmu ▸ hk))
  · obtain ⟨j, hj⟩ := List.getElem?_of_mem hb
    rw [List.getElem?_set] at hj
    split at hj
    · split at hj
      · simp at hj; subst hj
        have := h.blk _ hm
        exact setRow_heap w g _ _ e _ this
      · simp at hj
    · rename_i hij
      refine blk_kept (h.blk b (List.mem_of_getElem? hj)) hk (fun hg => ?_)
      simp only [List.mem_singleton] at hg
      exact hij (nodup_get h.nodup hi hj hg.symm)
  · intro hgg
    simp only [List.mem_singleton] at hgg
    subst hgg
    have hnd := (List.nodup_append.1 h.nodup).2.2
    exact hnd g' (List.mem_map.2 ⟨_, hm, rfl⟩) g' (List.mem_filterMap.2 ⟨r, hr, hg'⟩) rfl
end hp
end SX

namespace SX
open Go

theorem firstCells_of {P : Program} {size m : Nat} {u : Value} {news : List Value} {w : World} (h : Cells u m size news w) : (Builtin.firstCells size m u).run P w = .ok news.toArray w := by
  obtain ⟨⟨a, cap, rfl, _, _, hs, hc⟩, hl⟩ := h
  cases a with
  | some ad =>
    refine run_firstCells_some w size m ad m cap news hl fun j u hj => ?_
    obtain ⟨ad', h1, h2⟩ := hc j u hj
    simp at h1; subst h1
    rw [addr_add' _ _ (hs _ rfl)]
    exact h2
  | none =>
    have : news = [] := by
      cases news with
      | nil => rfl
      | cons u r => obtain ⟨ad, h1, _⟩ := hc 0 u rfl; simp at h1
    subst this
    have hm : m * size = 0 := by simpa using hl.symm
    simp [Builtin.firstCells]
theorem Cells.heap {v : Value} {n size : Nat} {cs : List Value} {w w' : World} (h : Cells v n size cs w) (hh : w'.heap = w.heap) : Cells v n size cs w' := by
  obtain ⟨⟨a, cap, h1, h2, h3, h4, h5⟩, hl⟩ := h
  exact ⟨⟨a, cap, h1, h2, h3, h4, fun j u hj => by obtain ⟨ad, k1, k2⟩ := h5 j u hj; exact ⟨ad, k1, by rw [← k2]; simp [World.cell?, hh]⟩⟩, hl⟩

theorem nextcap_fits {need cap bytes : Nat} (hlt : cap < need) (h : need * bytes ≤ 140737488355328) : Builtin.nextslicecap need cap * bytes ≤ 281474976710656 :=
  growslice_fits hlt h

section
variable {P : Program}
theorem run_append2 (w : World) {t ty e : TypeId} {agg : Bool} {z : Value} {size bytes : Nat} (ht : P.underlying t = some (.slice e)) (hT : TyF P e agg z size bytes) (hzs : z.cells.size = size)
    {v : Value} {n : Nat} {xs : List Value} (hown : w.ownsRow 0 e size v n xs) {u : Value} {m : Nat} {news : List Value} (hu : Cells u m size news w) (h1 : okCells news = true)
    (h63 : n + m ≤ maxLen) (hbytes : (n + m) * bytes ≤ 140737488355328) :
    ∃ v' w', (Builtin.append_ #[t, t] ty #[v, u]).run P w = .ok v' w' ∧ w'.ownsRow 0 e size v' (n + m) (xs ++ news) ∧
      ((v'.ownBlock = v.ownBlock ∧ Keeps v.ownBlock.toList w w') ∨ (Keeps [] w w' ∧ ∀ g, v'.ownBlock = some g → w.heap.size ≤ g)) := by
  obtain ⟨i, hi, hz, hsz, hby⟩ := hT.inf
  subst hsz; subst hby
  have h1' : ∀ v ∈ news, v.oneCell' = true := List.all_eq_true.1 h1
  have hsmall : n + m ≤ 9223372036854775807 := by simp only [maxLen] at h63; omega
  have hlen : (xs ++ news).length = (n + m) * i.size := by rw [List.length_append, hown.1, hu.len, Nat.add_mul]
  have hlo : (Builtin.lenOf u) = pure m := by
    obtain ⟨⟨a, cap, rfl, _⟩, _⟩ := hu; rfl
  have hfc : ∀ w', w'.heap = w.heap → (Builtin.firstCells i.size m u).run P w' = .ok news.toArray w' := fun w' hh => firstCells_of (hu.heap hh)
  have hfo : ∀ w', w'.heap = w.heap → (Builtin.firstCells i.size n v).run P w' = .ok xs.toArray w' := fun w' hh => firstCells_of ((ownsRow_cells hown).heap hh)
  have grown : ∀ (old : Nat), old < n + m →
      (w.drew.alloc (.cells (xs.toArray ++ news.toArray ++ Builtin.zeroCells z.cells (grownCap w (n + m) old e - (n + m))) e)).ownsRow 0 e i.size
        (.slice (some ⟨w.heap.size, 0, none⟩) (n + m) (grownCap w (n + m) old e)) (n + m) (xs ++ news) ∧
      Keeps [] w (w.drew.alloc (.cells (xs.toArray ++ news.toArray ++ Builtin.zeroCells z.cells (grownCap w (n + m) old e - (n + m))) e)) := by
    intro old ho
    have hge := grownCap_ge w (n + m) old e
    have hcm : grownCap w (n + m) old e ≤ maxLen := grownCap_le_maxLen w (n + m) old e h63
    refine ⟨⟨hlen, .inr ⟨w.heap.size, _, _, rfl, Nat.zero_le _, heap_alloc_new w.drew _, hge, hcm, ?_, ?_⟩⟩, ⟨rfl, rfl, rfl, by simp, fun k hk _ => Go.RowKit.Below.heap_alloc w.drew _ k hk⟩⟩
    · simp only [Array.size_append, List.size_toArray, size_zeroCells, hzs, hown.1, hu.len, ← Nat.add_mul]
      congr 1
      omega
    · simp only [Array.toList_append, List.append_assoc]
      rw [← List.append_assoc, ← hlen]
      exact List.take_left
  rcases hown.2 with ⟨rfl, rfl⟩ | ⟨g, cap, cur, rfl, hbg, hg, hnc, hcm, hcs, htake⟩
  · have hx : xs = [] := List.eq_nil_of_length_eq_zero (by simpa using hown.1)
    subst hx
    by_cases hm : m = 0
    · subst hm
      have hn : news = [] := List.eq_nil_of_length_eq_zero (by simpa using hu.len)
      subst hn
      refine ⟨.slice none 0 0, w, ?_, World.ownsRow_nil w 0 e i.size, .inr ⟨Keeps.refl _ _, by simp [Value.ownBlock]⟩⟩
      have := hfc w rfl
      simp [Builtin.append_, run_underlying ht, Go.sizeOf, typeInfo, hi, hlo, this]
    · have hgr := grown 0 (by omega)
      have h48 := nextcap_fits (need := 0 + m) (cap := 0) (by omega) hbytes
      simp only [Nat.zero_add, List.nil_append, Array.empty_append] at hgr h48 hbytes ⊢
      refine ⟨_, _, ?_, hgr.1, .inr ⟨hgr.2, by simp [Value.ownBlock]⟩⟩
      have hf := hfc w.drew rfl
      have hf0 : (Builtin.firstCells i.size 0 (.slice none 0 0)).run P w.drew = .ok #[] w.drew := hfo w.drew rfl
      have hm' : ¬ m ≤ 0 := by omega
      have hmx : ¬ (9223372036854775807 : Int) < (m : Int) := by omega
      have h48' : ¬ Builtin.nextslicecap m 0 * i.bytes > 2 ^ 48 := by simpa using h48
      simp [Builtin.append_, run_underlying ht, Go.sizeOf, typeInfo, zeroValue, hi, hz, hlo, hm, hmx, h48', Question.forced, hf, hf0, newRow, grownCap]
  · by_cases hroom : n + m ≤ cap
    · have hfit : n * i.size + news.length ≤ cur.size := by rw [hu.len, hcs, ← Nat.add_mul]; exact Nat.mul_le_mul_right _ hroom
      have hst := run_storeCells_at P g (n * i.size) e news 0 cur w hg (by simpa using hfit) h1'
      simp only [Nat.add_zero] at hst
      have hf := hfc w rfl
      refine ⟨.slice (some ⟨g, 0, none⟩) (n + m) cap, w.setRow g (cur.toList.take (n * i.size) ++ news ++ cur.toList.drop (n * i.size + news.length)).toArray, ?_, ⟨hlen, .inr ⟨g, cap, _, rfl, hbg, setRow_heap w g cur _ e _ hg, hroom, hcm, ?_, ?_⟩⟩, .inl ⟨rfl, ⟨rfl, rfl, rfl, by simp, fun k _ hk => setRow_other w g k _ (fun e => hk (by simp [Value.ownBlock, e]))⟩⟩⟩
      · simp [Builtin.append_, run_underlying ht, Go.sizeOf, typeInfo, hi, hlo, hroom, hf, Addr.add_lit, hst]
      · simp only [List.size_toArray, List.length_append, List.length_take, List.length_drop, Array.length_toList]
        omega
      · rw [htake, ← hlen]
        exact List.take_left
    · have hgr := grown cap (by omega)
      refine ⟨_, _, ?_, hgr.1, .inr ⟨hgr.2, by simp [Value.ownBlock]⟩⟩
      have hf := hfc w.drew rfl
      have hf0 := hfo w.drew rfl
      have hmx : ¬ (9223372036854775807 : Int) < (n : Int) + (m : Int) := by omega
      have h48' : ¬ Builtin.nextslicecap (n + m) cap * i.bytes > 2 ^ 48 := by simpa using nextcap_fits (by omega) hbytes
      simp [Builtin.append_, run_underlying ht, Go.sizeOf, typeInfo, zeroValue, hi, hz, hlo, hroom, hmx, h48', Question.forced, hf, hf0, newRow, grownCap]
      simp only [← Array.append_assoc, List.append_toArray]
end
end SX

namespace SX
open Go

section hp
variable {M0 : List Nat} {w0 w : World} {B : List BlkD} {R : List RowD} {F : List (World → Prop)}
theorem split_at {α : Type} {R : List α} {i : Nat} {r : α} (hi : R[i]? = some r) : ∃ R1 R2, R = R1 ++ r :: R2 ∧ R.eraseIdx i = R1 ++ R2 := by
  obtain ⟨hlt, rfl⟩ := List.getElem?_eq_some_iff.1 hi
  refine ⟨R.take i, R.drop (i + 1), ?_, List.eraseIdx_eq_take_drop_succ R i⟩
  rw [List.getElem_cons_drop, List.take_append_drop]
theorem muts_mid {R1 R2 : List RowD} {r : RowD} : (muts B (R1 ++ r :: R2)).Perm (muts B (r :: (R1 ++ R2))) := by
  unfold muts
  refine List.Perm.append_left _ (List.Perm.filterMap _ ?_)
  exact List.perm_middle
theorem Hp.swapRow {w' : World} {i : Nat} {r r' : RowD} (h : Hp M0 w0 w B R F) (hi : R[i]? = some r) (hr' : r'.own w')
    (hk : (r'.v.ownBlock = r.v.ownBlock ∧ Keeps r.v.ownBlock.toList w w') ∨ (Keeps [] w w' ∧ ∀ g, r'.v.ownBlock = some g → w.heap.size ≤ g)) :
    Hp M0 w0 w' B (r' :: R.eraseIdx i) F := by
  obtain ⟨R1, R2, rfl, he⟩ := split_at hi
  rw [he]
  have hp := muts_mid (B := B) (R1 := R1) (R2 := R2) (r := r)
  have hnd : (muts B (r :: (R1 ++ R2))).Nodup := hp.nodup_iff.1 h.nodup
  have hsub : (muts B (R1 ++ R2)).Sublist (muts B (r :: (R1 ++ R2))) := by
    unfold muts
    refine List.Sublist.append_left ?_ _
    simp only [List.filterMap_cons]
    split
    · exact List.Sublist.refl _
    · exact List.sublist_cons_self _ _
  have hnd' : (muts B (R1 ++ R2)).Nodup := hnd.sublist hsub
  have hrow : ∀ r0 ∈ R1 ++ R2, r0 ∈ R1 ++ r :: R2 := fun r0 h0 => by
    rcases List.mem_append.1 h0 with h0 | h0 <;> simp [h0]
  have hnot : ∀ g, r.v.ownBlock = some g → g ∉ muts B (R1 ++ R2) := by
    intro g hg hm
    unfold muts at hnd hm
    simp only [List.filterMap_cons, hg] at hnd
    rw [List.nodup_append] at hnd
    rcases List.mem_append.1 hm with h1 | h1
    · exact hnd.2.2 g h1 g (by simp) rfl
    · exact (List.nodup_cons.1 hnd.2.1).1 h1
  rcases hk with ⟨hv, hk⟩ | ⟨hk, hf⟩
  · refine h.turn r.v.ownBlock.toList hk (fun k hk' => ?_) (fun b hb => blk_kept (h.blk b hb) hk fun hm => ?_) (fun r0 h0 => ?_) (nodup_cons_row hnd' fun g hg => hnot g (hv ▸ hg)) (fun g hg => ?_)
    · rw [Option.mem_toList] at hk'
      exact hp.mem_iff.2 ((muts_cons_row k).2 (.inl hk'))
    · rw [Option.mem_toList] at hm
      exact hnot _ hm (List.mem_append.2 (.inl (List.mem_map.2 ⟨b, hb, rfl⟩)))
    · rcases List.mem_cons.1 h0 with rfl | h0
      · exact hr'
      · refine row_kept (h.row r0 (hrow r0 h0)) hk fun g hg hm => ?_
        rw [Option.mem_toList] at hm
        exact hnot _ hm (List.mem_append.2 (.inr (List.mem_filterMap.2 ⟨r0, h0, hg⟩)))
    · rcases (muts_cons_row g).1 hg with h1 | h1
      · exact .inl (hp.mem_iff.2 ((muts_cons_row g).2 (.inl (hv ▸ h1))))
      · exact .inl (hp.mem_iff.2 ((muts_cons_row g).2 (.inr h1)))
  · refine h.turn [] hk (by simp) (fun b hb => blk_kept (h.blk b hb) hk (by simp)) (fun r0 h0 => ?_) (nodup_cons_row hnd' fun g hg hm => ?_) (fun g hg => ?_)
    · rcases List.mem_cons.1 h0 with rfl | h0
      · exact hr'
      · exact row_kept (h.row r0 (hrow r0 h0)) hk (by simp)
    · have h1 := h.lt g (hp.mem_iff.2 ((muts_cons_row g).2 (.inr hm)))
      have h2 := hf g hg
      omega
    · rcases (muts_cons_row g).1 hg with h1 | h1
      · exact .inr (hf g h1)
      · exact .inl (hp.mem_iff.2 ((muts_cons_row g).2 (.inr h1)))
theorem Hp.addFact {φ : World → Prop} (h : Hp M0 w0 w B R F) (hφ : Nec w (muts B R) φ) : Hp M0 w0 w B R (φ :: F) :=
  { h with per := fun ψ hψ => by rcases List.mem_cons.1 hψ with rfl | hψ; exact hφ; exact h.per ψ hψ }
theorem Cells.keeps {v : Value} {n size : Nat} {cs : List Value} {M : List Nat} {w w' : World} (h : Cells v n size cs w) (hk : Keeps M w w') (hn : ∀ g, v.ownBlock = some g → g ∉ M) : Cells v n size cs w' := by
  obtain ⟨⟨a, cap, rfl, h2, h3, h4, h5⟩, hl⟩ := h
  refine ⟨⟨a, cap, rfl, h2, h3, h4, fun j u hj => ?_⟩, hl⟩
  obtain ⟨ad, rfl, k2⟩ := h5 j u hj
  refine ⟨ad, rfl, ?_⟩
  rw [← k2]
  refine World.cell?_of_block (hk.block _ (World.block_lt_of_cell? w _ k2) (hn _ rfl))
theorem Hp.freeze {i : Nat} {r : RowD} (h : Hp M0 w0 w B R F) (hi : R[i]? = some r) : Hp M0 w0 w B (R.eraseIdx i) (Cells r.v r.n r.size r.cs :: F) := by
  have hown := h.row r (List.mem_of_getElem? hi)
  have h' := h.weaken (B' := B) (R' := R.eraseIdx i) (F' := F) (List.Sublist.refl _) (List.eraseIdx_sublist R i) (fun φ hφ => hφ)
  refine h'.addFact fun w' hk => Cells.keeps (ownsRow_cells hown) hk fun g hg hm => ?_
  obtain ⟨R1, R2, rfl, he⟩ := split_at hi
  rw [he] at hm
  have hnd := (muts_mid (B := B) (R1 := R1) (R2 := R2) (r := r)).nodup_iff.1 h.nodup
  unfold muts at hnd hm
  simp only [List.filterMap_cons, hg] at hnd
  rw [List.nodup_append] at hnd
  rcases List.mem_append.1 hm with h1 | h1
  · exact hnd.2.2 g h1 g (by simp) rfl
  · exact (List.nodup_cons.1 hnd.2.1).1 h1
end hp

/-! ### Typed slices -/
def eI (k : IntKind) (x : Int) : List Value := [.int k x]
def eB (x : Bool) : List Value := [.bool x]
def Sl {α : Type} (enc : α → List Value) (size : Nat) (v : Value) (xs : List α) : World → Prop := Cells v xs.length size (xs.flatMap enc)
def Ro {α : Type} (enc : α → List Value) (e : TypeId) (size : Nat) (v : Value) (xs : List α) : RowD := ⟨v, e, size, xs.length, xs.flatMap enc⟩
def app {α : Type} (lim : Nat) (xs ys : List α) : Option (List α) := if xs.length + ys.length ≤ lim then some (xs ++ ys) else none
structure EncOk {α : Type} (enc : α → List Value) (size : Nat) : Prop where
  len : ∀ x, (enc x).length = size
  ok : ∀ x, okCells (enc x) = true
theorem eI_ok (k : IntKind) : EncOk (eI k) 1 := ⟨fun _ => rfl, fun _ => rfl⟩
theorem eB_ok : EncOk eB 1 := ⟨fun _ => rfl, fun _ => rfl⟩
theorem EncOk.okAll {α : Type} {enc : α → List Value} {size : Nat} (h : EncOk enc size) (xs : List α) : okCells (xs.flatMap enc) = true := by
  unfold okCells
  rw [List.all_eq_true]
  intro v hv
  obtain ⟨x, _, hx⟩ := List.mem_flatMap.1 hv
  exact List.all_eq_true.1 (h.ok x) v hx
theorem flatMap_get {α : Type} {enc : α → List Value} {size : Nat} (h : EncOk enc size) : ∀ (xs : List α) (i : Nat) (y : α) (j : Nat) (u : Value), xs[i]? = some y → (enc y)[j]? = some u → (xs.flatMap enc)[i * size + j]? = some u := by
  intro xs
  induction xs with
  | nil => intro i y j u hi _; simp at hi
  | cons x xs ih =>
    intro i y j u hi hj
    rw [List.flatMap_cons]
    cases i with
    | zero =>
      simp at hi; subst hi
      have hlt : j < (enc x).length := (List.getElem?_eq_some_iff.1 hj).1
      rw [List.getElem?_append_left (by omega)]
      simpa using hj
    | succ i =>
      have := ih i y j u (by simpa using hi) hj
      rw [List.getElem?_append_right (by rw [h.len, Nat.succ_mul]; omega), h.len]
      rw [show (i + 1) * size + j - size = i * size + j from by rw [Nat.succ_mul]; omega]
      exact this

section rules
variable {P : Program} {ro : Option Nat} {n : Nat} {D : List Deferred} {M0 : List Nat} {w0 : World} {Q : Exit → Act → World → Prop} {ρ : Type}
variable {ops : Array Oper} {rest : List Oper} {l : Env} {B : List BlkD} {R : List RowD} {F : List (World → Prop)} {m : Option ρ} {r : ρ}
variable {d : Nat} {t t' e : TypeId} {pos : String} {af : Array Edge} {gd : Option (Nat × Bool)} {agg : Bool} {z : Value} {size bytes : Nat}

theorem sxo_box {x : Operand} {V : Value} (hw : wants ops l ⟨some d, .box e x, t, pos, af, gd⟩ = some true) (hx : ev l x = some V) (hd : Nat.blt d n = true)
    (h : ∀ g, SXO P ro n D M0 w0 Q ops rest ((d, .pointer (some ⟨g, 0, none⟩)) :: l) (⟨g, e, V.cells.toList⟩ :: B) R F m r) : SXO P ro n D M0 w0 Q ops (⟨some d, .box e x, t, pos, af, gd⟩ :: rest) l B R F m r :=
  sxo_gen hw fun hm a w hf hp => by
    have h1 := hf.ev hx
    refine ⟨.pointer (some ⟨w.heap.size, 0, none⟩), w.alloc (.cells V.cells e), ?_, h _ hm _ _ (hf.put hd _) ?_⟩
    · generalize a.eval = ε at h1 ⊢
      simp [execOp, h1, Instr.box, newVar, newRow]
    · have := hp.alloc V.cells.toList e
      simpa using this
theorem sxo_alloc (hw : wants ops l ⟨some d, .alloc e, t, pos, af, gd⟩ = some true) (hT : TyF P e agg z size bytes) (hd : Nat.blt d n = true)
    (h : ∀ g, SXO P ro n D M0 w0 Q ops rest ((d, .pointer (some ⟨g, 0, none⟩)) :: l) (⟨g, e, z.cells.toList⟩ :: B) R F m r) : SXO P ro n D M0 w0 Q ops (⟨some d, .alloc e, t, pos, af, gd⟩ :: rest) l B R F m r :=
  sxo_gen hw fun hm a w hf hp => by
    refine ⟨.pointer (some ⟨w.heap.size, 0, none⟩), w.alloc (.cells z.cells e), ?_, h _ hm _ _ (hf.put hd _) ?_⟩
    · have hz := hT.run_zero w
      generalize hq : zeroValue e = q at hz
      simp [execOp, Instr.alloc, hq, hz, newVar, newRow]
    · have := hp.alloc z.cells.toList e
      simpa using this
theorem sxo_loadB {x : Operand} {i g o : Nat} {cs : List Value} {V : Value} (hw : wants ops l ⟨some d, .load t' x, t, pos, af, gd⟩ = some true) (hx : ev l x = some (.pointer (some ⟨g, o, none⟩))) (hT : TyF P t' agg z size bytes)
    (hB : B[i]? = some ⟨g, e, cs⟩) (hl : ((cs.drop o).take size).length = size) (hs : agg = false → size = 1) (hV : (if agg then .agg ((cs.drop o).take size).toArray else ((cs.drop o).take size).getD 0 undef) = V) (hd : Nat.blt d n = true)
    (h : SXO P ro n D M0 w0 Q ops rest ((d, V) :: l) B R F m r) : SXO P ro n D M0 w0 Q ops (⟨some d, .load t' x, t, pos, af, gd⟩ :: rest) l B R F m r :=
  sxo_val V hw rfl hd (fun a w hf hp => by
    have h1 := hf.ev hx
    have hb := hp.blk _ (List.mem_of_getElem? hB)
    have hc : CellsAt g o ((cs.drop o).take size) w := by
      intro j u hj
      have hlt : j < size := by have := (List.getElem?_eq_some_iff.1 hj).1; simp at this; omega
      rw [List.getElem?_take_of_lt hlt, List.getElem?_drop] at hj
      have hb' : w.heap[g]? = some (.cells cs.toArray e (0, 0)) := hb
      simp [World.cell?, hb', hj]
    have hr := run_loadVar hT hc hl hV.symm hs
    generalize a.eval = ε at h1 ⊢
    simp [execOp, h1, Instr.loadAt, Instr.sureAddr, hr]) h
theorem sxo_loadF {x : Operand} {j b o : Nat} {cs : List Value} {V : Value} (hw : wants ops l ⟨some d, .load t' x, t, pos, af, gd⟩ = some true) (hx : ev l x = some (.pointer (some ⟨b, o, none⟩))) (hT : TyF P t' agg z size bytes)
    (hF : F[j]? = some (CellsAt b o cs)) (hl : cs.length = size) (hs : agg = false → size = 1) (hV : (if agg then .agg cs.toArray else cs.getD 0 undef) = V) (hd : Nat.blt d n = true)
    (h : SXO P ro n D M0 w0 Q ops rest ((d, V) :: l) B R F m r) : SXO P ro n D M0 w0 Q ops (⟨some d, .load t' x, t, pos, af, gd⟩ :: rest) l B R F m r :=
  sxo_val V hw rfl hd (fun a w hf hp => by
    have h1 := hf.ev hx
    have hc : CellsAt b o cs w := (hp.per _ (List.mem_of_getElem? hF)).here
    have hr := run_loadVar hT hc hl hV.symm hs
    generalize a.eval = ε at h1 ⊢
    simp [execOp, h1, Instr.loadAt, Instr.sureAddr, hr]) h
theorem sxo_storeB {x y : Operand} {i g o : Nat} {cs cs' : List Value} {V : Value} (hw : wants ops l ⟨none, .store t' x y, t, pos, af, gd⟩ = some true) (hx : ev l x = some (.pointer (some ⟨g, o, none⟩))) (hy : ev l y = some V) (hT : TyF P t' agg z size bytes)
    (hB : B[i]? = some ⟨g, e, cs⟩) (hsz : V.cells.size = size) (ho : decide (o + V.cells.size ≤ cs.length) = true) (hok : okCells V.cells.toList = true) (hcs : cs.take o ++ V.cells.toList ++ cs.drop (o + V.cells.size) = cs')
    (h : SXO P ro n D M0 w0 Q ops rest l (B.set i ⟨g, e, cs'⟩) R F m r) : SXO P ro n D M0 w0 Q ops (⟨none, .store t' x y, t, pos, af, gd⟩ :: rest) l B R F m r := by
  intro hm a w hf hp
  have h1 := hf.ev hx
  have h2 := hf.ev hy
  have hb : w.heap[g]? = some (.cells cs.toArray e (0, 0)) := hp.blk _ (List.mem_of_getElem? hB)
  have hst := run_storeVar hT hb hsz (by simpa using ho) hok
  simp only [hcs] at hst
  have hr : (execOp a.eval ⟨none, .store t' x y, t, pos, af, gd⟩).run P w = .ok .skip (w.setRow g cs'.toArray) := by
    generalize a.eval = ε at h1 h2 ⊢
    simp [execOp, h1, h2, Instr.storeAt, Instr.sureAddr, hst]
  exact gwpList_unit (wants_sound hf hw) (wants_calm hw) hr (h hm _ _ hf (hp.setBlk hB))
theorem sxo_fieldAddr {x : Operand} {g o i off : Nat} {s : TypeId} (hw : wants ops l ⟨some d, .fieldAddr s x i, t, pos, af, gd⟩ = some true) (hx : ev l x = some (.pointer (some ⟨g, o, none⟩))) (hF : FdF P s i off) (hd : Nat.blt d n = true)
    (h : SXO P ro n D M0 w0 Q ops rest ((d, .pointer (some ⟨g, o + off, none⟩)) :: l) B R F m r) : SXO P ro n D M0 w0 Q ops (⟨some d, .fieldAddr s x i, t, pos, af, gd⟩ :: rest) l B R F m r :=
  sxo_val _ hw rfl hd (fun a w hf _ => by
    have h1 := hf.ev hx
    obtain ⟨fs, f, hu, hf1, hf2, j, hj, hjs⟩ := hF.out
    generalize a.eval = ε at h1 ⊢
    simp [execOp, h1, Instr.fieldAt, run_underlying hu, hf1, Instr.sureAddr, fieldPlace, Go.sizeOf, typeInfo, hj, hjs, hf2, addr_add, go_sem]) h
theorem sxo_indexF {α : Type} {enc : α → List Value} {xs : List α} {k : α → Option ρ} {x ix : Operand} {ki : IntKind} {i : Int} {v : Value} {j : Nat} (henc : EncOk enc size) (hs0 : size ≠ 0)
    (hw : wants ops l ⟨some d, .indexAddr t' x ix, t, pos, af, gd⟩ = some true) (ht : P.underlying t' = some (.slice e)) (hT : TyF P e agg z size bytes) (hx : ev l x = some v) (hi : ev l ix = some (.int ki i))
    (hF : F[j]? = some (Sl enc size v xs)) (hd : Nat.blt d n = true)
    (h : ∀ y, idx xs i = some y → ∀ b o, SXO P ro n D M0 w0 Q ops rest ((d, .pointer (some ⟨b, o, none⟩)) :: l) B R (CellsAt b o (enc y) :: F) (k y) r) :
    SXO P ro n D M0 w0 Q ops (⟨some d, .indexAddr t' x ix, t, pos, af, gd⟩ :: rest) l B R F ((idx xs i).bind k) r := by
  refine sxo_gen hw fun hm a w hf hp => ?_
  cases hq : idx xs i with
  | none => rw [hq] at hm; simp at hm
  | some y =>
    rw [hq] at hm
    have hm' : k y = some r := by simpa using hm
    unfold idx at hq
    split at hq
    · rename_i h0
      have hlt : i.toNat < xs.length := (List.getElem?_eq_some_iff.1 hq).1
      have hnec := hp.per _ (List.mem_of_getElem? hF)
      have hcell : Sl enc size v xs w := hnec.here
      have h1 := hf.ev hx
      have h2 := hf.ev hi
      · obtain ⟨⟨ao, cap, rfl, hnc, hcm, hsp, hc⟩, hlen⟩ := hcell
        have h00 : 0 < (enc y).length := by rw [henc.len]; omega
        obtain ⟨ad, rfl, had⟩ := hc (i.toNat * size + 0) _ (flatMap_get henc xs i.toNat y 0 _ hq (List.getElem?_eq_getElem h00))
        refine ⟨.pointer (some ⟨ad.block, ad.off + i.toNat * size, none⟩), w, ?_, h y (by unfold idx; rw [if_pos h0]; exact hq) _ _ hm' _ _ (hf.put hd _) (hp.addFact ?_)⟩
        · have hlt' : i < (xs.length : Int) := by omega
          generalize a.eval = ε at h1 h2 ⊢
          simp [execOp, h1, h2, Instr.indexAt, asIntOf, run_underlying ht, hT.run_size, h0, hlt', addr_add' _ _ (hsp _ rfl), go_sem]
        · intro w' hk' jj u hj
          obtain ⟨⟨ao', cap', hv', _, _, hsp', hc'⟩, _⟩ := hnec w' hk'
          simp only [Value.slice.injEq] at hv'
          obtain ⟨rfl, -, -⟩ := hv'
          obtain ⟨ad', h3, h4⟩ := hc' (i.toNat * size + jj) u (flatMap_get henc xs i.toNat y jj u hq hj)
          simp only [Option.some.injEq] at h3
          subst h3
          rw [← h4]
          simp only [Nat.add_assoc]
    · simp at hq
end rules
end SX

namespace SX
open Go

theorem fold_put (vs : List Value) : ∀ (j0 off : Nat) (done old rest : List Value), done.length = off + j0 → old.length = vs.length →
    ((vs.zipIdx j0).foldl (fun (cs : Array Value) (p : Value × Nat) => cs.setIfInBounds (off + p.2) p.1) (done ++ old ++ rest).toArray) = (done ++ vs ++ rest).toArray := by
  induction vs with
  | nil => intro j0 off done old rest _ ho; have : old = [] := List.eq_nil_of_length_eq_zero (by simpa using ho); subst this; simp
  | cons v vs ih =>
    intro j0 off done old rest hd ho
    cases old with
    | nil => simp at ho
    | cons o old =>
      rw [List.zipIdx_cons, List.foldl_cons]
      have e1 : (done ++ (o :: old) ++ rest).toArray.setIfInBounds (off + j0) v = ((done ++ [v]) ++ old ++ rest).toArray := by
        rw [List.setIfInBounds_toArray, ← hd]
        congr 1
        simp
      simp only at e1 ⊢
      rw [e1, ih (j0 + 1) off (done ++ [v]) old rest (by simp; omega) (by simpa using ho)]
      simp
theorem fill_ok {size : Nat} : ∀ (vs : List Value) (k : Nat) (done old : List Value), (∀ v ∈ vs, v.cells.size = size) → done.length = k * size → old.length = vs.length * size →
    Instr.fill (fun i => some (i * size, size)) (done ++ old).toArray (vs.zipIdx k |>.map fun p => (p.2, p.1)) = some (done ++ vs.flatMap (fun v => v.cells.toList)).toArray := by
  intro vs
  induction vs with
  | nil => intro k done old _ _ ho; have : old = [] := List.eq_nil_of_length_eq_zero (by simpa using ho); subst this; simp [Instr.fill]
  | cons v vs ih =>
    intro k done old hv hd ho
    have hvs := hv v (by simp)
    have hol : size ≤ old.length := by rw [ho]; simp [Nat.succ_mul]
    simp only [List.zipIdx_cons, List.map_cons, Instr.fill]
    have hbig : ¬ (v.cells.size ≠ size || (k * size + v.cells.size) > (done ++ old).toArray.size) = true := by
      simp [hvs, hd]; omega
    rw [if_neg hbig]
    have hp := fold_put v.cells.toList 0 (k * size) done (old.take size) (old.drop size) (by simpa using hd) (by simp [hvs]; omega)
    rw [List.append_assoc, List.take_append_drop] at hp
    have e2 : (Array.foldl (fun (cs : Array Value) (p : Value × Nat) => cs.setIfInBounds (k * size + p.2) p.1) (done ++ old).toArray v.cells.zipIdx) = (done ++ v.cells.toList ++ old.drop size).toArray := by
      rw [← hp, ← Array.foldl_toList]
      simp
    have := ih (k + 1) (done ++ v.cells.toList) (old.drop size) (fun u hu => hv u (by simp [hu])) (by simp [hd, hvs, Nat.succ_mul]) (by simp [ho, Nat.succ_mul])
    simp only [List.flatMap_cons]
    rw [← List.append_assoc done, ← this]
    congr 1

def mk {α : Type} (lim : Nat) (y : α) (n : Int) : Option (List α) := if 0 ≤ n ∧ n ≤ (lim : Int) then some (List.replicate n.toNat y) else none
def sub {α : Type} (xs : List α) (lo hi : Int) : Option (List α) := if 0 ≤ lo ∧ lo ≤ hi ∧ hi ≤ xs.length then some ((xs.take hi.toNat).drop lo.toNat) else none
def evParts (l : Env) : List (Nat × Operand) → Option (List (Nat × Value))
  | [] => some []
  | (i, x) :: r => match ev l x, evParts l r with
    | some v, some vs => some ((i, v) :: vs)
    | _, _ => none
theorem Fr.evParts {n : Nat} {D : List Deferred} {a : Act} {l : Env} (h : Fr n D a l) : ∀ {ps : List (Nat × Operand)} {vs : List (Nat × Value)}, SX.evParts l ps = some vs → ps.map (fun p => (p.1, a.eval p.2)) = vs := by
  intro ps
  induction ps with
  | nil => intro vs hv; simp [SX.evParts] at hv; simp [hv]
  | cons p ps ih =>
    intro vs hv
    obtain ⟨i, x⟩ := p
    simp only [SX.evParts] at hv
    split at hv
    · rename_i v vs' h1 h2
      simp at hv; subst hv
      simp [h.ev h1, ih h2]
    · simp at hv
def evArgs (l : Env) : List Operand → Option (List Value)
  | [] => some []
  | x :: r => match ev l x, evArgs l r with
    | some v, some vs => some (v :: vs)
    | _, _ => none
theorem Fr.evArgs {n : Nat} {D : List Deferred} {a : Act} {l : Env} (h : Fr n D a l) : ∀ {ps : List Operand} {vs : List Value}, SX.evArgs l ps = some vs → ps.map a.eval = vs := by
  intro ps
  induction ps with
  | nil => intro vs hv; simp [SX.evArgs] at hv; simp [hv]
  | cons x ps ih =>
    intro vs hv
    simp only [SX.evArgs] at hv
    split at hv
    · rename_i v vs' h1 h2
      simp at hv; subst hv
      simp [h.ev h1, ih h2]
    · simp at hv

section rules
variable {P : Program} {ro : Option Nat} {n : Nat} {D : List Deferred} {M0 : List Nat} {w0 : World} {Q : Exit → Act → World → Prop} {ρ : Type}
variable {ops : Array Oper} {rest : List Oper} {l : Env} {B : List BlkD} {R : List RowD} {F : List (World → Prop)} {m : Option ρ} {r : ρ}
variable {d : Nat} {t t' e : TypeId} {pos : String} {af : Array Edge} {gd : Option (Nat × Bool)} {agg : Bool} {z : Value} {size bytes : Nat}

theorem flatMap_len {α : Type} {enc : α → List Value} (h : EncOk enc size) (xs : List α) : (xs.flatMap enc).length = xs.length * size := by
  induction xs with
  | nil => simp
  | cons x xs ih => simp [h.len, ih, Nat.succ_mul]; omega
theorem ro_own_new {α : Type} {enc : α → List Value} (henc : EncOk enc size) {w : World} {cs : List Value} (ys : List α) (cap : Nat) (hcap : cap ≤ maxLen) (hle : ys.length ≤ cap)
    (hlen : cs.length = cap * size) (hcs : cs.take (ys.length * size) = ys.flatMap enc) : (Ro enc e size (.slice (some ⟨w.heap.size, 0, none⟩) ys.length cap) ys).own (w.alloc (.cells cs.toArray e)) := by
  refine ⟨flatMap_len henc ys, .inr ⟨w.heap.size, cap, cs.toArray, rfl, Nat.zero_le _, heap_alloc_new w _, hle, hcap, (by simpa using hlen : cs.toArray.size = cap * size), hcs⟩⟩
theorem sxo_buildSlice {α : Type} {enc : α → List Value} {len : Nat} {parts : Array (Nat × Operand)} {vs : List Value} {ys : List α} (henc : EncOk enc size) (hs0 : size ≠ 0)
    (hw : wants ops l ⟨some d, .buildSlice t' len parts, t, pos, af, gd⟩ = some true) (ht : P.underlying t' = some (.slice e)) (hT : TyF P e agg z size bytes) (hzs : z.cells.size = size) (hd : Nat.blt d n = true)
    (hp : evParts l parts.toList = some (vs.zipIdx.map fun p => (p.2, p.1))) (hys : vs.map (fun v => v.cells.toList) = ys.map enc) (hl : len = ys.length) (hbig : len * size ≤ 16777216)
    (h : ∀ v, SXO P ro n D M0 w0 Q ops rest ((d, v) :: l) B (Ro enc e size v ys :: R) F m r) :
    SXO P ro n D M0 w0 Q ops (⟨some d, .buildSlice t' len parts, t, pos, af, gd⟩ :: rest) l B R F m r := by
  refine sxo_gen hw fun hm a w hf hh => ?_
  have hvl : vs.length = ys.length := by have := congrArg List.length hys; simpa using this
  have hcells : ∀ v ∈ vs, v.cells.size = size := by
    intro v hv
    have : v.cells.toList ∈ ys.map enc := by rw [← hys]; exact List.mem_map.2 ⟨v, hv, rfl⟩
    obtain ⟨y, _, hy⟩ := List.mem_map.1 this
    have := henc.len y
    rw [hy] at this
    simpa using this
  have hflat : vs.flatMap (fun v => v.cells.toList) = ys.flatMap enc := by
    rw [List.flatMap_def, List.flatMap_def, hys]
  have hpe := hf.evParts hp
  subst hl
  have hfill := fill_ok (size := size) vs 0 [] ((Array.range (ys.length * size)).map (z.cells[· % z.cells.size]!)).toList hcells (by simp) (by simp [hvl])
  simp only [List.nil_append, hflat] at hfill
  refine ⟨.slice (some ⟨w.heap.size, 0, none⟩) ys.length ys.length, w.alloc (.cells (ys.flatMap enc).toArray e), ?_, h _ hm _ _ (hf.put hd _) (hh.addRow (Keeps.alloc _ _ _) (ro_own_new henc ys ys.length ?_ (Nat.le_refl _) (flatMap_len henc ys) ?_) ?_)⟩
  · have hbig' : ¬ ys.length * size > 2 ^ 24 := by simpa using hbig
    have hpa : (parts.map fun p => (p.1, a.eval p.2)) = (vs.zipIdx.map fun p => (p.2, p.1)).toArray := by
      rw [← hpe, ← Array.toList_map, Array.toArray_toList]
    by_cases h0 : ys.length = 0
    · have hys0 : ys = [] := List.eq_nil_of_length_eq_zero h0
      subst hys0
      have hvs0 : vs = [] := List.eq_nil_of_length_eq_zero (by simpa using hvl)
      subst hvs0
      simp only [List.zipIdx_nil, List.map_nil] at hpa
      have hr0 : Array.range 0 = #[] := rfl
      simp [execOp, hpa, Instr.buildSlice, run_underlying ht, hT.run_size, Instr.fill, newRow, hr0]
    · have hne : ¬ ys.length * size = 0 := Nat.mul_ne_zero h0 hs0
      have hz := hT.run_zero w
      generalize hq : zeroValue e = q at hz
      simp only [execOp]
      rw [hpa]
      have hfill' : Instr.fill (fun i => some (i * size, size)) ((Array.range (ys.length * size)).map (z.cells[· % z.cells.size]!)) (vs.zipIdx.map fun p => (p.2, p.1)) = some (ys.flatMap enc).toArray := by
        rw [Array.toArray_toList] at hfill
        exact hfill
      simp [Instr.buildSlice, run_underlying ht, hT.run_size, hbig', hq, hz, hfill', newRow]
      exact fun h => absurd h hne
  · have : ys.length ≤ ys.length * size := Nat.le_mul_of_pos_right _ (by omega)
    simp only [maxLen]; omega
  · rw [← flatMap_len henc ys, List.take_length]
  · intro g hg
    simp [Ro, Value.ownBlock] at hg
    omega
/-- A nil slice is a row of its own. -/
theorem sxo_nilrow {α : Type} (enc : α → List Value) (e : TypeId) (size : Nat) (h : SXO P ro n D M0 w0 Q ops rest l B (Ro enc e size (.slice none 0 0) ([] : List α) :: R) F m r) : SXO P ro n D M0 w0 Q ops rest l B R F m r :=
  fun hm a w hf hp => h hm a w hf (hp.addRow (Keeps.refl _ _) ⟨by simp [Ro], .inl ⟨rfl, rfl⟩⟩ (by simp [Ro, Value.ownBlock]))
theorem sxo_freeze {α : Type} {enc : α → List Value} {v : Value} {xs : List α} (i : Nat) (hR : R[i]? = some (Ro enc e size v xs)) (h : SXO P ro n D M0 w0 Q ops rest l B (R.eraseIdx i) (Sl enc size v xs :: F) m r) : SXO P ro n D M0 w0 Q ops rest l B R F m r :=
  fun hm a w hf hp => h hm a w hf (hp.freeze hR)
theorem src_cells {u : Value} {k : Nat} {cs : List Value} {w : World} (hp : Hp M0 w0 w B R F) (hu : (∃ (j : Nat) (e' : TypeId), R[j]? = some ⟨u, e', size, k, cs⟩) ∨ (∃ (j : Nat), F[j]? = some (Cells u k size cs))) : Cells u k size cs w := by
  rcases hu with ⟨j, e', h⟩ | ⟨j, h⟩
  · exact ownsRow_cells (hp.row _ (List.mem_of_getElem? h))
  · exact (hp.per _ (List.mem_of_getElem? h)).here
theorem sxo_append {α : Type} {enc : α → List Value} {xs ys : List α} {k : List α → Option ρ} {s x : Operand} {v u : Value} {lim : Nat} (i : Nat) (henc : EncOk enc size)
    (hw : wants ops l ⟨some d, .call ⟨.builtin .append, #[s, x], #[t', t']⟩, t, pos, af, gd⟩ = some true) (ht : P.underlying t' = some (.slice e)) (hT : TyF P e agg z size bytes) (hzs : z.cells.size = size) (hd : Nat.blt d n = true)
    (hs : ev l s = some v) (hx : ev l x = some u) (hR : R[i]? = some (Ro enc e size v xs)) (hu : (∃ (j : Nat) (e' : TypeId), R[j]? = some (Ro enc e' size u ys)) ∨ (∃ (j : Nat), F[j]? = some (Sl enc size u ys)))
    (hlim : lim ≤ 9223372036854775807) (hlb : lim * bytes ≤ 140737488355328)
    (h : ∀ zs, app lim xs ys = some zs → ∀ v', SXO P ro n D M0 w0 Q ops rest ((d, v') :: l) B (Ro enc e size v' zs :: R.eraseIdx i) F (k zs) r) :
    SXO P ro n D M0 w0 Q ops (⟨some d, .call ⟨.builtin .append, #[s, x], #[t', t']⟩, t, pos, af, gd⟩ :: rest) l B R F ((app lim xs ys).bind k) r := by
  refine sxo_gen hw fun hm a w hf hp => ?_
  cases hq : app lim xs ys with
  | none => rw [hq] at hm; simp at hm
  | some zs =>
    rw [hq] at hm
    have hm' : k zs = some r := by simpa using hm
    have hq' := hq
    unfold app at hq
    split at hq
    · rename_i hle
      simp only [Option.some.injEq] at hq
      subst hq
      have h1 := hf.ev hs
      have h2 := hf.ev hx
      have hsrc : Cells u ys.length size (ys.flatMap enc) w := src_cells hp (by
        rcases hu with ⟨j, e', h⟩ | ⟨j, h⟩
        · exact .inl ⟨j, e', h⟩
        · exact .inr ⟨j, h⟩)
      obtain ⟨v', w', hr, ho, hk⟩ := run_append2 (P := P) (ty := t) w ht hT hzs (hp.row _ (List.mem_of_getElem? hR)) hsrc (henc.okAll ys)
        (by show xs.length + ys.length ≤ maxLen; simp only [maxLen]; omega) (by show (xs.length + ys.length) * bytes ≤ _; exact Nat.le_trans (Nat.mul_le_mul_right _ hle) hlb)
      refine ⟨v', w', ?_, h _ hq' v' hm' _ _ (hf.put hd _) (hp.swapRow hR ?_ hk)⟩
      · generalize a.eval = ε at h1 h2 ⊢
        simp only [Ro] at hr
        simp [execOp, resolve, invoke, builtin, h1, h2, hr]
      · have ho' : w'.ownsRow 0 e size v' (xs.length + ys.length) (xs.flatMap enc ++ ys.flatMap enc) := ho
        show w'.ownsRow 0 e size v' (xs ++ ys).length ((xs ++ ys).flatMap enc)
        rw [List.length_append, List.flatMap_append]
        exact ho'
    · simp at hq
end rules
end SX

namespace SX
open Go

section
variable {P : Program} {ro : Option Nat} {n : Nat} {D : List Deferred} {M0 : List Nat} {w0 : World} {Q : Exit → Act → World → Prop} {ρ : Type}
variable {ops : Array Oper} {rest : List Oper} {l : Env} {B : List BlkD} {R : List RowD} {F : List (World → Prop)} {m : Option ρ} {r : ρ}
variable {d : Nat} {t t' e : TypeId} {pos : String} {af : Array Edge} {gd : Option (Nat × Bool)} {agg : Bool} {z : Value} {size bytes : Nat}

/-! ### Rows read and written in place; cuts; make -/
theorem sxo_indexR {α : Type} {enc : α → List Value} {xs : List α} {k : α → Option ρ} {x ix : Operand} {ki : IntKind} {i : Int} {v : Value} {j : Nat}
    (hw : wants ops l ⟨some d, .indexAddr t' x ix, t, pos, af, gd⟩ = some true) (ht : P.underlying t' = some (.slice e)) (hT : TyF P e agg z size bytes) (hx : ev l x = some v) (hi : ev l ix = some (.int ki i))
    (hR : R[j]? = some (Ro enc e size v xs)) (hd : Nat.blt d n = true)
    (h : ∀ y, idx xs i = some y → ∀ g, v.ownBlock = some g → SXO P ro n D M0 w0 Q ops rest ((d, .pointer (some ⟨g, i.toNat * size, none⟩)) :: l) B R F (k y) r) :
    SXO P ro n D M0 w0 Q ops (⟨some d, .indexAddr t' x ix, t, pos, af, gd⟩ :: rest) l B R F ((idx xs i).bind k) r := by
  refine sxo_gen hw fun hm a w hf hp => ?_
  cases hq : idx xs i with
  | none => rw [hq] at hm; simp at hm
  | some y =>
    rw [hq] at hm
    have hm' : k y = some r := by simpa using hm
    have hq0 := hq
    unfold idx at hq
    split at hq
    · rename_i h0
      have hlt : i.toNat < xs.length := (List.getElem?_eq_some_iff.1 hq).1
      have h1 := hf.ev hx
      have h2 := hf.ev hi
      have hown := hp.row _ (List.mem_of_getElem? hR)
      rcases hown.2 with ⟨_, h3⟩ | ⟨g, cap, cur, hv, _⟩
      · have : xs.length = 0 := h3
        omega
      · have hv' : v = .slice (some ⟨g, 0, none⟩) xs.length cap := hv
        refine ⟨.pointer (some ⟨g, i.toNat * size, none⟩), w, ?_, h y hq0 g (by rw [hv']; rfl) hm' _ _ (hf.put hd _) hp⟩
        have hlt' : i < (xs.length : Int) := by omega
        rw [hv'] at h1
        generalize a.eval = ε at h1 h2 ⊢
        simp [execOp, h1, h2, Instr.indexAt, asIntOf, run_underlying ht, hT.run_size, h0, hlt', addr_add]
    · simp at hq
theorem row_cell {α : Type} {enc : α → List Value} (henc : EncOk enc size) {xs : List α} {v : Value} {w : World} {g i : Nat} {y : α} (hown : (Ro enc e size v xs).own w) (hg : v.ownBlock = some g) (hy : xs[i]? = some y) :
    CellsAt g (i * size) (enc y) w := by
  intro j u hj
  have hc := ownsRow_cells hown
  obtain ⟨⟨ao, cap, hv, _, _, hsp, hcl⟩, _⟩ := hc
  have hv' : v = .slice ao xs.length cap := hv
  obtain ⟨ad, rfl, h4⟩ := hcl (i * size + j) u (flatMap_get henc xs i y j u hy hj)
  subst hv'
  rcases hown.2 with ⟨h5, _⟩ | ⟨g', cap', cur, h5, _⟩
  · simp [Ro] at h5
  · simp only [Ro, Value.slice.injEq, Option.some.injEq] at h5
    obtain ⟨rfl, -, -⟩ := h5
    simp [Value.ownBlock] at hg
    subst hg
    simpa using h4
theorem sxo_loadR {α : Type} {enc : α → List Value} {xs : List α} {x : Operand} {j g i : Nat} {v V : Value} {y : α} (henc : EncOk enc size) (hw : wants ops l ⟨some d, .load t' x, t, pos, af, gd⟩ = some true)
    (hx : ev l x = some (.pointer (some ⟨g, i * size, none⟩))) (hT : TyF P t' agg z size bytes)
    (hR : R[j]? = some (Ro enc e size v xs)) (hg : v.ownBlock = some g) (hy : xs[i]? = some y) (hs : agg = false → size = 1) (hV : (if agg then .agg (enc y).toArray else (enc y).getD 0 undef) = V) (hd : Nat.blt d n = true)
    (h : SXO P ro n D M0 w0 Q ops rest ((d, V) :: l) B R F m r) : SXO P ro n D M0 w0 Q ops (⟨some d, .load t' x, t, pos, af, gd⟩ :: rest) l B R F m r :=
  sxo_val V hw rfl hd (fun a w hf hp => by
    have h1 := hf.ev hx
    have hc := row_cell henc (hp.row _ (List.mem_of_getElem? hR)) hg hy
    have hr := run_loadVar hT hc (henc.len y) hV.symm hs
    generalize a.eval = ε at h1 ⊢
    simp [execOp, h1, Instr.loadAt, Instr.sureAddr, hr]) h
theorem take_three {α : Type} (A B C : List α) (N : Nat) (h : A.length + B.length ≤ N) : (A ++ (B ++ C)).take N = A ++ (B ++ C.take (N - A.length - B.length)) := by
  rw [List.take_append, List.take_of_length_le (by omega), List.take_append, List.take_of_length_le (by omega)]
theorem flatMap_set {α : Type} {enc : α → List Value} (henc : EncOk enc size) : ∀ (xs : List α) (i : Nat) (y : α), i < xs.length →
    (xs.set i y).flatMap enc = (xs.flatMap enc).take (i * size) ++ enc y ++ (xs.flatMap enc).drop (i * size + size) := by
  intro xs
  induction xs with
  | nil => intro i y h; simp at h
  | cons x xs ih =>
    intro i y h
    cases i with
    | zero => simp [henc.len]
    | succ i =>
      have := ih i y (by simpa using h)
      have e1 : (i + 1) * size = size + i * size := by rw [Nat.succ_mul]; omega
      simp only [List.set_cons_succ, List.flatMap_cons, this, e1]
      have h1 : (enc x ++ xs.flatMap enc).take (size + i * size) = enc x ++ (xs.flatMap enc).take (i * size) := by
        rw [List.take_append, henc.len, List.take_of_length_le (by rw [henc.len]; omega)]
        congr 2; omega
      have h2 : (enc x ++ xs.flatMap enc).drop (size + i * size + size) = (xs.flatMap enc).drop (i * size + size) := by
        rw [List.drop_append, henc.len, List.drop_eq_nil_of_le (by rw [henc.len]; omega), List.nil_append]
        congr 1; omega
      rw [h1, h2]
      simp
theorem sxo_storeR {α : Type} {enc : α → List Value} {xs : List α} {x y : Operand} {j g i : Nat} {v V : Value} {y' : α} (henc : EncOk enc size) (hw : wants ops l ⟨none, .store t' x y, t, pos, af, gd⟩ = some true)
    (hx : ev l x = some (.pointer (some ⟨g, i * size, none⟩))) (hy : ev l y = some V) (hT : TyF P t' agg z size bytes)
    (hR : R[j]? = some (Ro enc e size v xs)) (hg : v.ownBlock = some g) (hi : i < xs.length) (hV : V.cells.toList = enc y')
    (h : SXO P ro n D M0 w0 Q ops rest l B (Ro enc e size v (xs.set i y') :: R.eraseIdx j) F m r) : SXO P ro n D M0 w0 Q ops (⟨none, .store t' x y, t, pos, af, gd⟩ :: rest) l B R F m r := by
  intro hm a w hf hp
  have h1 := hf.ev hx
  have h2 := hf.ev hy
  have hown := hp.row _ (List.mem_of_getElem? hR)
  have hvs : V.cells.size = size := by have := henc.len y'; rw [← hV] at this; simpa using this
  have hxl : (xs.flatMap enc).length = xs.length * size := flatMap_len henc xs
  rcases hown.2 with ⟨h5, _⟩ | ⟨g', cap', cur, h5, _, hgg, hnc, hcm, hcs, htake⟩
  · have h5' : v = .slice none 0 0 := h5
    subst h5'; simp [Value.ownBlock] at hg
  · have h5' : v = .slice (some ⟨g', 0, none⟩) xs.length cap' := h5
    subst h5'
    simp [Value.ownBlock] at hg
    subst hg
    have hgg' : w.heap[g']? = some (.cells cur e (0, 0)) := hgg
    have hcs' : cur.size = cap' * size := hcs
    have htake' : cur.toList.take (xs.length * size) = xs.flatMap enc := htake
    have hmul : (i + 1) * size ≤ xs.length * size := Nat.mul_le_mul_right _ hi
    rw [Nat.succ_mul] at hmul
    have hnc' : xs.length ≤ cap' := hnc
    have hmul2 : xs.length * size ≤ cap' * size := Nat.mul_le_mul_right _ hnc'
    have hok : okCells V.cells.toList = true := by rw [hV]; exact henc.ok y'
    have hst := run_storeVar hT hgg' hvs (o := i * size) (by rw [hvs, hcs']; omega) hok
    have hr : (execOp a.eval ⟨none, .store t' x y, t, pos, af, gd⟩).run P w = .ok .skip (w.setRow g' (cur.toList.take (i * size) ++ V.cells.toList ++ cur.toList.drop (i * size + V.cells.size)).toArray) := by
      generalize a.eval = ε at h1 h2 ⊢
      simp [execOp, h1, h2, Instr.storeAt, Instr.sureAddr, hst]
    refine gwpList_unit (wants_sound hf hw) (wants_calm hw) hr (h hm _ _ hf (hp.swapRow hR ?_ (.inl ⟨rfl, ⟨rfl, rfl, rfl, by simp, fun k _ hk => setRow_other w g' k _ (fun e => hk (by simp [Ro, Value.ownBlock, e]))⟩⟩)))
    have hlen : (xs.set i y').length = xs.length := List.length_set
    refine ⟨by show ((xs.set i y').flatMap enc).length = (xs.set i y').length * size; exact flatMap_len henc _, .inr ⟨g', cap', _, ?_, Nat.zero_le _, setRow_heap w g' cur _ e _ hgg', ?_, hcm, ?_, ?_⟩⟩
    · show Value.slice _ xs.length _ = Value.slice _ (xs.set i y').length _
      rw [hlen]
    · show (xs.set i y').length ≤ cap'
      rw [hlen]; exact hnc'
    · show _ = cap' * size
      simp only [List.size_toArray, List.length_append, List.length_take, List.length_drop, Array.length_toList]
      omega
    · show List.take ((xs.set i y').length * size) _ = (xs.set i y').flatMap enc
      rw [hlen, flatMap_set henc xs i y' hi, ← htake', hV]
      have e3 : (enc y').length = size := henc.len y'
      have t1 : ((cur.toList.take (xs.length * size)).take (i * size)) = cur.toList.take (i * size) := by rw [List.take_take]; congr 1; omega
      have t2 : (cur.toList.take (xs.length * size)).drop (i * size + size) = (cur.toList.drop (i * size + size)).take (xs.length * size - (i * size + size)) := by rw [List.drop_take]
      rw [t1, t2, hvs]
      have l1 : (cur.toList.take (i * size)).length = i * size := by simp; omega
      rw [List.append_assoc, List.append_assoc, take_three _ _ _ _ (by rw [l1, e3]; omega), l1, e3]
      congr 3
      omega
end
end SX

namespace SX
open Go

section
variable {P : Program} {ro : Option Nat} {n : Nat} {D : List Deferred} {M0 : List Nat} {w0 : World} {Q : Exit → Act → World → Prop} {ρ : Type}
variable {ops : Array Oper} {rest : List Oper} {l : Env} {B : List BlkD} {R : List RowD} {F : List (World → Prop)} {m : Option ρ} {r : ρ}
variable {d : Nat} {t t' e : TypeId} {pos : String} {af : Array Edge} {gd : Option (Nat × Bool)} {agg : Bool} {z : Value} {size bytes : Nat}

def evOpt (l : Env) (x : Option Operand) (dflt : Int) : Option Int :=
  match x with
  | none => some dflt
  | some x => match ev l x with
    | some (.int _ i) => some i
    | _ => none
theorem Cells.cut {v : Value} {k lo hi : Nat} {cs : List Value} {w : World} (h : Cells v k size cs w) (h1 : lo ≤ hi) (h2 : hi ≤ k) :
    ∃ a cap, v = .slice a k cap ∧ Cells (.slice (if cap = lo then a else a.map (·.add (lo * size))) (hi - lo) (cap - lo)) (hi - lo) size ((cs.take (hi * size)).drop (lo * size)) w := by
  obtain ⟨⟨a, cap, rfl, hn, hm, hs, hc⟩, hl⟩ := h
  have hmul : lo * size ≤ hi * size := Nat.mul_le_mul_right _ h1
  have hmul2 : hi * size ≤ k * size := Nat.mul_le_mul_right _ h2
  refine ⟨a, cap, rfl, ⟨_, _, rfl, by omega, by omega, ?_, ?_⟩, by simp only [List.length_drop, List.length_take, hl]; rw [Nat.sub_mul]; omega⟩
  · intro ad had
    split at had
    · exact hs ad had
    · cases a with
      | none => simp at had
      | some a0 =>
        simp at had
        rw [addr_add' _ _ (hs a0 rfl)] at had
        rw [← had]
  · intro j u hj
    have hjl := (List.getElem?_eq_some_iff.1 hj).1
    simp only [List.length_drop, List.length_take, hl] at hjl
    rw [List.getElem?_drop, List.getElem?_take_of_lt (by omega)] at hj
    obtain ⟨ad, rfl, hcell⟩ := hc _ u hj
    have hne : ¬ cap = lo := by
      intro he
      have : hi = lo := by omega
      subst this
      omega
    rw [if_neg hne]
    refine ⟨ad.add (lo * size), rfl, ?_⟩
    rw [addr_add' _ _ (hs _ rfl)]
    simpa [Nat.add_assoc] using hcell
theorem flatMap_take {α : Type} {enc : α → List Value} (henc : EncOk enc size) : ∀ (xs : List α) (i : Nat), (xs.take i).flatMap enc = (xs.flatMap enc).take (i * size) := by
  intro xs
  induction xs with
  | nil => intro i; simp
  | cons x xs ih =>
    intro i
    cases i with
    | zero => simp
    | succ i =>
      have e1 : (enc x ++ xs.flatMap enc).take ((i + 1) * size) = enc x ++ (xs.flatMap enc).take (i * size) := by
        have hx := henc.len x
        rw [List.take_append, List.take_of_length_le (show (enc x).length ≤ (i + 1) * size by rw [hx, Nat.succ_mul]; omega), hx]
        congr 2
        rw [Nat.succ_mul]; omega
      rw [List.take_succ_cons, List.flatMap_cons, List.flatMap_cons, ih, e1]
theorem flatMap_drop {α : Type} {enc : α → List Value} (henc : EncOk enc size) : ∀ (xs : List α) (i : Nat), (xs.drop i).flatMap enc = (xs.flatMap enc).drop (i * size) := by
  intro xs
  induction xs with
  | nil => intro i; simp
  | cons x xs ih =>
    intro i
    cases i with
    | zero => simp
    | succ i =>
      have e1 : (enc x ++ xs.flatMap enc).drop ((i + 1) * size) = (xs.flatMap enc).drop (i * size) := by
        have hx := henc.len x
        rw [List.drop_append, List.drop_eq_nil_of_le (show (enc x).length ≤ (i + 1) * size by rw [hx, Nat.succ_mul]; omega), hx, List.nil_append]
        congr 1
        rw [Nat.succ_mul]; omega
      rw [List.drop_succ_cons, List.flatMap_cons, ih, e1]
theorem evOpt_run {a : Act} {x : Option Operand} {dflt i : Int} (hf : Fr n D a l) (h : evOpt l x dflt = some i) : (∃ k, x.map a.eval = some (.int k i)) ∨ (x = none ∧ i = dflt) := by
  cases x with
  | none => simp [evOpt] at h; exact .inr ⟨rfl, h.symm⟩
  | some x =>
    simp only [evOpt] at h
    split at h
    · rename_i k j hx
      simp at h; subst h
      exact .inl ⟨k, by simp [hf.ev hx]⟩
    · simp at h
theorem sxo_cutF {α : Type} {enc : α → List Value} {xs : List α} {k : List α → Option ρ} {x : Operand} {lo hi : Option Operand} {li hj : Int} {v : Value} {j : Nat} (henc : EncOk enc size)
    (hw : wants ops l ⟨some d, .slice t' x lo hi none, t, pos, af, gd⟩ = some true) (ht : P.underlying t' = some (.slice e)) (hT : TyF P e agg z size bytes) (hx : ev l x = some v)
    (hlo : evOpt l lo 0 = some li) (hhi : evOpt l hi (xs.length : Int) = some hj)
    (hF : F[j]? = some (Sl enc size v xs)) (hd : Nat.blt d n = true)
    (h : ∀ ys, sub xs li hj = some ys → ∀ v', SXO P ro n D M0 w0 Q ops rest ((d, v') :: l) B R (Sl enc size v' ys :: F) (k ys) r) :
    SXO P ro n D M0 w0 Q ops (⟨some d, .slice t' x lo hi none, t, pos, af, gd⟩ :: rest) l B R F ((sub xs li hj).bind k) r := by
  refine sxo_gen hw fun hm a w hf hp => ?_
  cases hq : sub xs li hj with
  | none => rw [hq] at hm; simp at hm
  | some ys =>
    rw [hq] at hm
    have hm' : k ys = some r := by simpa using hm
    have hq0 := hq
    unfold sub at hq
    split at hq
    · rename_i hb
      obtain ⟨b1, b2, b3⟩ := hb
      simp only [Option.some.injEq] at hq
      obtain ⟨L, rfl⟩ := Int.eq_ofNat_of_zero_le b1
      obtain ⟨H, rfl⟩ := Int.eq_ofNat_of_zero_le (Int.le_trans b1 b2)
      have b2' : L ≤ H := by omega
      have b3' : H ≤ xs.length := by omega
      have hnec := hp.per _ (List.mem_of_getElem? hF)
      obtain ⟨a0, cap, hv, _⟩ := Cells.cut (hnec.here : Cells v xs.length size (xs.flatMap enc) w) b2' b3'
      have hcap : xs.length ≤ cap := by
        obtain ⟨⟨a1, c1, hv1, hn1, _⟩, _⟩ := (hnec.here : Cells v xs.length size (xs.flatMap enc) w)
        rw [hv] at hv1
        simp only [Value.slice.injEq] at hv1
        omega
      subst hv
      have hys : ys.length = H - L := by rw [← hq]; simp; omega
      refine ⟨.slice (if cap = L then a0 else a0.map (·.add (L * size))) (H - L) (cap - L), w, ?_, h ys hq0 _ hm' _ _ (hf.put hd _) (hp.addFact ?_)⟩
      · have h1 := hf.ev hx
        have e1 := evOpt_run hf hlo
        have e2 := evOpt_run hf hhi
        have hb1 : (H : Int) ≤ (cap : Int) := by omega
        have hb0 : (0 : Int) ≤ (H : Int) := by omega
        have hb2 : (L : Int) ≤ (H : Int) := by omega
        have hb3 : (0 : Int) ≤ (L : Int) := by omega
        have hn1 : H ≤ cap := by omega
        have hn2 : ¬ H < L := by omega
        have hn3 : ¬ cap < H := by omega
        generalize hε : a.eval = ε at h1 e1 e2 ⊢
        rcases e1 with ⟨k1, e1⟩ | ⟨rfl, e1⟩ <;> rcases e2 with ⟨k2, e2⟩ | ⟨rfl, e2⟩
        · simp [execOp, h1, e1, e2, Instr.sliceAt, Instr.slice, Instr.sliceBounds, Instr.sliceBound, asIntOf, run_underlying ht, hT.run_size, hb0, hb3, hn1, b2']
        · have : H = xs.length := by omega
          subst this
          simp [execOp, h1, e1, Instr.sliceAt, Instr.slice, Instr.sliceBounds, Instr.sliceBound, asIntOf, run_underlying ht, hT.run_size, hb3, b2']
        · have : L = 0 := by omega
          subst this
          simp [execOp, h1, e2, Instr.sliceAt, Instr.slice, Instr.sliceBounds, Instr.sliceBound, asIntOf, run_underlying ht, hT.run_size, hb0, hn1]
        · have : H = xs.length := by omega
          subst this
          have : L = 0 := by omega
          subst this
          simp [execOp, h1, Instr.sliceAt, Instr.slice, Instr.sliceBounds, run_underlying ht, hT.run_size]
      · intro w' hk'
        obtain ⟨a2, c2, hv2, hc2⟩ := Cells.cut (hnec w' hk' : Cells _ xs.length size (xs.flatMap enc) w') b2' b3'
        simp only [Value.slice.injEq] at hv2
        obtain ⟨rfl, -, rfl⟩ := hv2
        show Cells _ ys.length size (ys.flatMap enc) w'
        rw [hys, ← hq, flatMap_drop henc, flatMap_take henc]
        exact hc2
    · simp at hq
theorem made_list (z : Value) (k : Nat) (h : z.cells = #[z]) : (madeCells z.cells k).toList = (List.replicate k z) := by
  rw [h]
  simp only [madeCells]
  apply List.ext_getElem
  · simp
  · intro i h1 h2
    simp [Nat.mod_one]
theorem flatMap_replicate {α : Type} (enc : α → List Value) (y : α) (z : Value) (h : enc y = [z]) (k : Nat) : (List.replicate k y).flatMap enc = List.replicate k z := by
  induction k with
  | zero => simp
  | succ k ih => rw [List.replicate_succ, List.flatMap_cons, ih, h]; rfl
theorem sxo_make {α : Type} {enc : α → List Value} {y : α} {k : List α → Option ρ} {x c : Operand} {kl kc : IntKind} {i : Int} {lim : Nat} (_henc : EncOk enc 1)
    (hw : wants ops l ⟨some d, .makeSlice t' x c, t, pos, af, gd⟩ = some true) (ht : P.underlying t' = some (.slice e)) (hT : TyF P e agg z 1 bytes) (hx : ev l x = some (.int kl i)) (hc : ev l c = some (.int kc i))
    (hz : z.cells = #[z]) (hy : enc y = [z]) (hlim : lim ≤ 9223372036854775807) (hlb : lim * bytes ≤ 281474976710656) (hd : Nat.blt d n = true)
    (h : ∀ ys, mk lim y i = some ys → ∀ v, SXO P ro n D M0 w0 Q ops rest ((d, v) :: l) B (Ro enc e 1 v ys :: R) F (k ys) r) :
    SXO P ro n D M0 w0 Q ops (⟨some d, .makeSlice t' x c, t, pos, af, gd⟩ :: rest) l B R F ((mk lim y i).bind k) r := by
  refine sxo_gen hw fun hm a w hf hp => ?_
  cases hq : mk lim y i with
  | none => rw [hq] at hm; simp at hm
  | some ys =>
    rw [hq] at hm
    have hm' : k ys = some r := by simpa using hm
    have hq0 := hq
    unfold mk at hq
    split at hq
    · rename_i hb
      simp only [Option.some.injEq] at hq
      obtain ⟨N, rfl⟩ := Int.eq_ofNat_of_zero_le hb.1
      have hN : N ≤ lim := by omega
      obtain ⟨i0, hi, hz0, hs0, hb0⟩ := hT.inf
      subst hb0
      obtain ⟨w', hr, ho, hg⟩ := run_make_full (P := P) w 0 t' e i0 z 1 ht hi hz0 hs0 kl kc N (by rw [Nat.mul_comm]; exact Nat.le_trans (Nat.mul_le_mul_right _ hN) hlb) (by simp only [maxLen]; omega) (Nat.zero_le _)
      have h1 := hf.ev hx
      have h2 := hf.ev hc
      have hk : Keeps [] w w' := ⟨hg.os, hg.tape, hg.output, hg.size, fun k hk _ => hg.block k hk (by simp)⟩
      have hyl : ys.length = N := by rw [← hq]; simp
      refine ⟨_, w', ?_, h ys hq0 _ hm' _ _ (hf.put hd (.slice (some ⟨w.heap.size, 0, none⟩) N N)) (hp.addRow hk ?_ ?_)⟩
      · generalize a.eval = ε at h1 h2 ⊢
        simp [execOp, h1, h2, hr]
      · show w'.ownsRow 0 e 1 _ ys.length (ys.flatMap enc)
        rw [hyl, ← hq]
        simp only [Int.toNat_natCast]
        rw [flatMap_replicate enc y z hy, ← made_list z N hz]
        rw [Nat.mul_one] at ho
        exact ho
      · intro g hg'
        simp [Ro, Value.ownBlock] at hg'
        omega
    · simp at hq
end
end SX

namespace SX
open Go
def Enters (P : Program) (f : FuncId) : Prop := ∀ (args : Array Value) (w : World), (callFunc f args).run P w = .ok (.enter f args) w
theorem enters_of {P : Program} {f : FuncId} {fn : Func} {c : Code} (hf : P.funcs[f]? = some fn) (hname : (fn.name == "runtime.NumGoroutine") = false) (hb : fn.body = some c) : Enters P f := by
  intro args w
  have h1 : fn.name ≠ "runtime.NumGoroutine" := by simpa using hname
  simp [callFunc, hf, h1, hb]

/-- What a call leaves: nothing that was there has turned; rows of its own. -/
structure Ret (w w' : World) (R : List RowD) (F : List (World → Prop)) : Prop where
  keep : Keeps [] w w'
  row : ∀ r ∈ R, r.own w'
  nodup : (muts [] R).Nodup
  fresh : ∀ g ∈ muts [] R, w.heap.size ≤ g
  per : ∀ φ ∈ F, ∀ w'' : World, (∀ k, w.heap.size ≤ k → k < w'.heap.size → k ∉ muts [] R → w''.heap[k]? = w'.heap[k]?) → φ w''
inductive Args (R : List RowD) (F : List (World → Prop)) : List (World → Prop) → Prop
  | nil : Args R F []
  | consF {φ : World → Prop} {Φ : List (World → Prop)} (j : Nat) (h : F[j]? = some φ) (ha : Args R F Φ) : Args R F (φ :: Φ)
  | consR {Φ : List (World → Prop)} (j : Nat) (rd : RowD) (h : R[j]? = some rd) (ha : Args R F Φ) : Args R F (Cells rd.v rd.n rd.size rd.cs :: Φ)
theorem Args.ok {R : List RowD} {F Φ : List (World → Prop)} {B : List BlkD} {M0 : List Nat} {w0 w : World} (ha : Args R F Φ) (hp : Hp M0 w0 w B R F) : ∀ φ ∈ Φ, Nec w [] φ := by
  induction ha with
  | nil => intro φ h; simp at h
  | consF j h _ ih =>
    intro φ hφ
    rcases List.mem_cons.1 hφ with rfl | hφ
    · exact (hp.per _ (List.mem_of_getElem? h)).less (by simp)
    · exact ih φ hφ
  | consR j rd h _ ih =>
    intro φ hφ
    rcases List.mem_cons.1 hφ with rfl | hφ
    · intro w' hk
      exact Cells.keeps (ownsRow_cells (hp.row _ (List.mem_of_getElem? h))) hk (by simp)
    · exact ih φ hφ
theorem Hp.start {Φ : List (World → Prop)} {w : World} (h : ∀ φ ∈ Φ, Nec w [] φ) : Hp [] w w [] [] Φ :=
  ⟨Keeps.refl _ _, by simp, by simp, by simp [muts], by simp [muts], fun φ hφ => (h φ hφ).less (by simp [muts])⟩
theorem muts_append {B : List BlkD} {R1 R2 : List RowD} : (muts B (R1 ++ R2)).Perm (muts [] R1 ++ muts B R2) := by
  unfold muts
  simp only [List.map_nil, List.nil_append, List.filterMap_append, ← List.append_assoc]
  exact List.Perm.append_right _ List.perm_append_comm
theorem Hp.call {M0 : List Nat} {w0 w w' : World} {B : List BlkD} {R R1 : List RowD} {F F1 : List (World → Prop)} (h : Hp M0 w0 w B R F) (hr : Ret w w' R1 F1) : Hp M0 w0 w' B (R1 ++ R) (F1 ++ F) := by
  have h1 : Hp M0 w0 w' B (R1 ++ R) F := by
    refine h.turn [] hr.keep (by simp) (fun b hb => blk_kept (h.blk b hb) hr.keep (by simp)) (fun r0 h0 => ?_) ?_ ?_
    · rcases List.mem_append.1 h0 with h0 | h0
      · exact hr.row r0 h0
      · exact row_kept (h.row r0 h0) hr.keep (by simp)
    · refine muts_append.nodup_iff.2 (List.nodup_append.2 ⟨hr.nodup, h.nodup, fun a ha b hb => ?_⟩)
      have := hr.fresh a ha
      have := h.lt b hb
      omega
    · intro g hg
      rcases List.mem_append.1 (muts_append.mem_iff.1 hg) with h2 | h2
      · exact .inr (hr.fresh g h2)
      · exact .inl h2
  refine { h1 with per := fun φ hφ => ?_ }
  rcases List.mem_append.1 hφ with h2 | h2
  · intro w'' hk
    refine hr.per φ h2 w'' fun k hk1 hk2 hk3 => hk.block k hk2 fun hm => ?_
    rcases List.mem_append.1 (muts_append.mem_iff.1 hm) with h3 | h3
    · exact hk3 h3
    · have := h.lt k h3; omega
  · exact h1.per φ h2

/-- The contract of a function that only computes. -/
def Pure (P : Program) (f : FuncId) (vs : List Value) (Φ : List (World → Prop)) (γ : Type) (V : γ → Value) (RW : γ → List RowD) (PH : γ → List (World → Prop)) : Prop :=
  ∀ w, Hp [] w w [] [] Φ → Calls P f vs.toArray w fun e w' => ∃ g : γ, e = .returned (V g) ∧ Ret w w' (RW g) (PH g)

section
variable {P : Program} {ro : Option Nat} {n : Nat} {D : List Deferred} {M0 : List Nat} {w0 : World} {Q : Exit → Act → World → Prop} {ρ : Type}
variable {ops : Array Oper} {rest : List Oper} {l : Env} {B : List BlkD} {R : List RowD} {F : List (World → Prop)} {m : Option ρ} {r : ρ}
variable {d : Nat} {t t' e : TypeId} {pos : String} {af : Array Edge} {gd : Option (Nat × Bool)} {agg : Bool} {z : Value} {size bytes : Nat}

theorem run_call {a : Act} {f : FuncId} {xs : Array Operand} {tys : Array TypeId} {vs : List Value} {w : World} {dst : Option Tmp} (hf : Fr n D a l) (he : Enters P f) (hx : evArgs l xs.toList = some vs) :
    (execOp a.eval ⟨dst, .call ⟨.value (.func f), xs, tys⟩, t, pos, af, gd⟩).run P w = .ok (.enter f vs.toArray) w := by
  have h1 : a.eval (.func f) = .func (.func f) #[] #[] := rfl
  have h2 := hf.evArgs hx
  have h3 : xs.map a.eval = vs.toArray := by rw [← h2, ← Array.toList_map, Array.toArray_toList]
  have h4 := he vs.toArray w
  generalize a.eval = ε at h1 h3 ⊢
  simp [execOp, resolve, h1, h3, Deferred.ofValue, invoke, h4]
theorem sxo_call {α γ : Type} {mg : Option α} {k : α → Option ρ} {f : FuncId} {xs : Array Operand} {tys : Array TypeId} {vs : List Value} {Φ : List (World → Prop)} {V : α → γ → Value} {RW : α → γ → List RowD} {PH : α → γ → List (World → Prop)}
    (he : Enters P f) (hw : wants ops l ⟨some d, .call ⟨.value (.func f), xs, tys⟩, t, pos, af, gd⟩ = some true) (hx : evArgs l xs.toList = some vs) (hd : Nat.blt d n = true)
    (hC : ∀ y, mg = some y → Pure P f vs Φ γ (V y) (RW y) (PH y)) (ha : Args R F Φ)
    (h : ∀ y, mg = some y → ∀ g, SXO P ro n D M0 w0 Q ops rest ((d, V y g) :: l) B (RW y g ++ R) (PH y g ++ F) (k y) r) :
    SXO P ro n D M0 w0 Q ops (⟨some d, .call ⟨.value (.func f), xs, tys⟩, t, pos, af, gd⟩ :: rest) l B R F (mg.bind k) r := by
  intro hm a w hf hp
  cases hq : mg with
  | none => rw [hq] at hm; simp at hm
  | some y =>
    rw [hq] at hm
    have hm' : k y = some r := by simpa using hm
    refine gwpList_call (wants_sound hf hw) (wants_calm hw) (run_call hf he hx) ((hC y hq w (Hp.start (ha.ok hp))).mono fun e w' ⟨g, h1, h2⟩ => ⟨V y g, h1, ?_⟩)
    exact h y hq g hm' _ _ (hf.put hd _) (hp.call h2)

/-! ### Control -/
variable {c x y : Code}
theorem sxc_region {id : Nat} {os : List Oper} (h : SXO P ro n D M0 w0 Q os.toArray os l B R F m r) : SXC P ro n D M0 w0 Q (.region id os.toArray false) l B R F m r :=
  fun hm a w hf hp => wpIn_region_lit (h hm a w hf hp)
theorem sxc_seq (h : SXC P ro n D M0 w0 (Exit.then (gwp ro P y Q) Q) x l B R F m r) : SXC P ro n D M0 w0 Q (.seq x y) l B R F m r :=
  fun hm a w hf hp => wpIn_seq (h hm a w hf hp)
theorem sxc_cond {co : Operand} {b : Bool} (hc : ev l co = some (.bool b)) (h1 : b = true → SXC P ro n D M0 w0 Q x l B R F m r) (h2 : b = false → SXC P ro n D M0 w0 Q y l B R F m r) : SXC P ro n D M0 w0 Q (.cond co x y) l B R F m r := by
  intro hm a w hf hp
  refine wpIn_cond_split (hf.ev hc) (fun hb => h1 hb hm a w hf hp) (fun hb => h2 hb hm a w hf hp)
theorem sxc_if {co : Operand} {b : Bool} {m1 m2 : Option ρ} (hc : ev l co = some (.bool b)) (h1 : b = true → SXC P ro n D M0 w0 Q x l B R F m1 r) (h2 : b = false → SXC P ro n D M0 w0 Q y l B R F m2 r) :
    SXC P ro n D M0 w0 Q (.cond co x y) l B R F (if b then m1 else m2) r := by
  refine sxc_cond hc (fun hb => ?_) (fun hb => ?_)
  · subst hb; exact fun hm => h1 rfl (by simpa using hm)
  · subst hb; exact fun hm => h2 rfl (by simpa using hm)
theorem sxc_block {id : Nat} (h : SXC P ro n D M0 w0 (Exit.inBlock id Q) c l B R F m r) : SXC P ro n D M0 w0 Q (.block id c) l B R F m r :=
  fun hm a w hf hp => wpIn_block (h hm a w hf hp)
theorem sxc_skip (h : SXQ n D M0 w0 Q .normal l B R F m r) : SXC P ro n D M0 w0 Q .skip l B R F m r := fun hm a w hf hp => wpIn_skip (h hm a w hf hp)
theorem sxc_exit {id : Nat} (h : SXQ n D M0 w0 Q (.exit id) l B R F m r) : SXC P ro n D M0 w0 Q (.exit id) l B R F m r := fun hm a w hf hp => wpIn_exit (h hm a w hf hp)
theorem sxc_ret (h : SXQ n D M0 w0 Q .ret l B R F m r) : SXC P ro n D M0 w0 Q .ret l B R F m r := fun hm a w hf hp => wpIn_ret (h hm a w hf hp)
theorem sxq_next {K : Exit → Act → World → Prop} (h : SXC P ro n D M0 w0 Q y l B R F m r) : SXQ n D M0 w0 (Exit.then (gwp ro P y Q) K) .normal l B R F m r := h
theorem sxq_thenX {K : Act → World → Prop} {id : Nat} (h : SXQ n D M0 w0 Q (.exit id) l B R F m r) : SXQ n D M0 w0 (Exit.then K Q) (.exit id) l B R F m r := h
theorem sxq_thenR {K : Act → World → Prop} (h : SXQ n D M0 w0 Q .ret l B R F m r) : SXQ n D M0 w0 (Exit.then K Q) .ret l B R F m r := h
theorem sxq_blkN {id : Nat} (h : SXQ n D M0 w0 Q .normal l B R F m r) : SXQ n D M0 w0 (Exit.inBlock id Q) .normal l B R F m r := h
theorem sxq_blkR {id : Nat} (h : SXQ n D M0 w0 Q .ret l B R F m r) : SXQ n D M0 w0 (Exit.inBlock id Q) .ret l B R F m r := h
theorem sxq_blkX {id : Nat} (h : SXQ n D M0 w0 Q .normal l B R F m r) : SXQ n D M0 w0 (Exit.inBlock id Q) (.exit id) l B R F m r := by
  intro hm a w hf hp
  show if id = id then _ else _
  rw [if_pos rfl]
  exact h hm a w hf hp
theorem sxq_blkO {id id' : Nat} (hne : Nat.beq id' id = false) (h : SXQ n D M0 w0 Q (.exit id') l B R F m r) : SXQ n D M0 w0 (Exit.inBlock id Q) (.exit id') l B R F m r := by
  intro hm a w hf hp
  show if id' = id then _ else _
  rw [if_neg (fun he => by subst he; simp at hne)]
  exact h hm a w hf hp
/-- A place where ways meet: what holds there of the slots and of the heap, and what the model still does. -/
theorem sxc_join {S : Type} (I : S → Env) (IB : S → List BlkD) (IR : S → List RowD) (IF : S → List (World → Prop)) (mj : S → Option ρ)
    (hx : SXC P ro n D M0 w0 (Exit.then (fun a w => ∃ s, mj s = some r ∧ Fr n D a (I s) ∧ Hp M0 w0 w (IB s) (IR s) (IF s)) Q) x l B R F m r)
    (hy : ∀ s, SXC P ro n D M0 w0 Q y (I s) (IB s) (IR s) (IF s) (mj s) r) : SXC P ro n D M0 w0 Q (.seq x y) l B R F m r := by
  intro hm a w hf hp
  refine wpIn_seq (gwp_mono (hx hm a w hf hp) fun e a' w' hq => ?_)
  cases e with
  | normal => obtain ⟨s, h1, h2, h3⟩ := hq; exact hy s h1 a' w' h2 h3
  | _ => exact hq
theorem sxq_meet {S : Type} {I : S → Env} {IB : S → List BlkD} {IR : S → List RowD} {IF : S → List (World → Prop)} {mj : S → Option ρ} {K : Exit → Act → World → Prop} (s : S)
    (hI : ∀ p ∈ I s, look l p.1 = some p.2) (hB : (IB s).Sublist B) (hR : (IR s).Sublist R) (hF : ∀ φ ∈ IF s, φ ∈ F) :
    SXQ n D M0 w0 (Exit.then (fun a w => ∃ s, mj s = some r ∧ Fr n D a (I s) ∧ Hp M0 w0 w (IB s) (IR s) (IF s)) K) .normal l B R F (mj s) r :=
  fun hm _ _ hf hp => ⟨s, hm, hf.less hI, hp.weaken hB hR hF⟩
theorem wp_loop_ex (I : Nat → Act → World → Prop) {a : Act} {w : World} (h0 : ∃ k, I k a w)
    (round : ∀ k a w, I k a w → gwp ro P c (Exit.then (fun a' w' => ∃ k' < k, I k' a' w') Q) a w) : gwp ro P (Code.loop c) Q a w := by
  let J : Act → World → Prop := fun a w => ∃ k, I k a w
  have least : ∀ (p : Nat → Prop) (b k : Nat), k ≤ b → p k → ∃ k, p k ∧ ∀ j, p j → k ≤ j := by
    intro p b
    induction b with
    | zero => intro k hk h; exact ⟨k, h, fun j _ => by omega⟩
    | succ b ih =>
      intro k hk h
      by_cases hx : ∃ k', k' ≤ b ∧ p k'
      · obtain ⟨k', h1, h2⟩ := hx; exact ih k' h1 h2
      · refine ⟨k, h, fun j hj => ?_⟩
        by_cases hjb : j ≤ b
        · exact absurd ⟨j, hjb, hj⟩ hx
        · omega
  have least' : ∀ (a : Act) (w : World), ∃ k, J a w → I k a w ∧ ∀ j, I j a w → k ≤ j := by
    intro a w
    by_cases hJ : J a w
    · obtain ⟨k, hk⟩ := hJ
      obtain ⟨k', h1, h2⟩ := least (fun k => I k a w) k k (Nat.le_refl _) hk
      exact ⟨k', fun _ => ⟨h1, h2⟩⟩
    · exact ⟨0, fun h => absurd h hJ⟩
  refine wpIn_loop J (fun a w => Classical.choose (least' a w)) h0 fun a w hJ => ?_
  have hf := Classical.choose_spec (least' a w) hJ
  refine gwp_mono (round _ a w hf.1) fun e a' w' hq => ?_
  cases e with
  | normal =>
    obtain ⟨k', hlt, hk'⟩ := hq
    refine ⟨⟨k', hk'⟩, ?_⟩
    exact Nat.lt_of_le_of_lt ((Classical.choose_spec (least' a' w') ⟨k', hk'⟩).2 k' hk') hlt
  | _ => exact hq
/-- A loop: after k rounds at the most the model, from the state s on, gives r. -/
theorem sxc_loop {S : Type} (I : S → Env) (IB : S → List BlkD) (IR : S → List RowD) (IF : S → List (World → Prop)) (ml : Nat → S → Option ρ) (s0 : S) (k0 : Nat)
    (hI : ∀ p ∈ I s0, look l p.1 = some p.2) (hB : (IB s0).Sublist B) (hR : (IR s0).Sublist R) (hF : ∀ φ ∈ IF s0, φ ∈ F)
    (hz : ∀ s, ml 0 s = none)
    (hround : ∀ k s, SXC P ro n D M0 w0 (Exit.then (fun a w => ∃ k' < k + 1, ∃ s, ml k' s = some r ∧ Fr n D a (I s) ∧ Hp M0 w0 w (IB s) (IR s) (IF s)) Q) c (I s) (IB s) (IR s) (IF s) (ml (k + 1) s) r) :
    SXC P ro n D M0 w0 Q (.loop c) l B R F (ml k0 s0) r := by
  intro hm a w hf hp
  refine wp_loop_ex (fun k a w => ∃ s, ml k s = some r ∧ Fr n D a (I s) ∧ Hp M0 w0 w (IB s) (IR s) (IF s)) ⟨k0, s0, hm, hf.less hI, hp.weaken hB hR hF⟩ fun k a w hI => ?_
  obtain ⟨s, h1, h2, h3⟩ := hI
  cases k with
  | zero => rw [hz s] at h1; simp at h1
  | succ k => exact hround k s h1 a w h2 h3
theorem sxq_again {S : Type} {I : S → Env} {IB : S → List BlkD} {IR : S → List RowD} {IF : S → List (World → Prop)} {ml : Nat → S → Option ρ} {K : Exit → Act → World → Prop} {k : Nat} (s : S)
    (hI : ∀ p ∈ I s, look l p.1 = some p.2) (hB : (IB s).Sublist B) (hR : (IR s).Sublist R) (hF : ∀ φ ∈ IF s, φ ∈ F) :
    SXQ n D M0 w0 (Exit.then (fun a w => ∃ k' < k + 1, ∃ s, ml k' s = some r ∧ Fr n D a (I s) ∧ Hp M0 w0 w (IB s) (IR s) (IF s)) K) .normal l B R F (ml k s) r :=
  fun hm _ _ hf hp => ⟨k, Nat.lt_succ_self k, s, hm, hf.less hI, hp.weaken hB hR hF⟩

/-! ### The whole function -/
theorem pure_of {f : FuncId} {fn : Func} {c : Code} {vs : List Value} {Φ : List (World → Prop)} {γ : Type} {V : γ → Value} {RW : γ → List RowD} {PH : γ → List (World → Prop)} {N : Nat} (hfn : P.funcs[f]? = some fn) (hb : fn.body = some c) (hn : fn.ntmps = N)
    (hvl : Nat.ble vs.length N = true) (hm : m = some r)
    (h : ∀ w, SXC P none N [] [] w (bodyPost P fn fun e w' => ∃ g : γ, e = .returned (V g) ∧ Ret w w' (RW g) (PH g)) c (vs.zipIdx.map fun p => (p.2, p.1)) [] [] Φ m r) : Pure P f vs Φ γ V RW PH := by
  intro w hp
  refine calls_of_wp hfn hb (gwp_none.1 (h w hm _ w ?_ hp))
  have hvl' : vs.length ≤ N := by simpa using hvl
  refine ⟨rfl, by simp [hn]; omega, fun i v hv => ?_⟩
  have key : ∀ (vs : List Value) (k i : Nat) (v : Value), look ((vs.zipIdx k).map fun p => (p.2, p.1)) i = some v → k ≤ i ∧ vs[i - k]? = some v := by
    intro vs
    induction vs with
    | nil => intro k i v hv; simp [look] at hv
    | cons u vs ih =>
      intro k i v hv
      simp only [List.zipIdx_cons, List.map_cons] at hv
      rw [look_cons] at hv
      split at hv
      · rename_i he; subst he; simpa using hv
      · obtain ⟨h1, h2⟩ := ih (k + 1) i v hv
        refine ⟨by omega, ?_⟩
        rw [show i - k = (i - (k + 1)) + 1 from by omega]
        simpa using h2
  obtain ⟨_, h2⟩ := key vs 0 i v hv
  have hlt := (List.getElem?_eq_some_iff.1 h2).1
  rw [Array.getElem?_append_left (by simpa using hlt)]
  simpa using h2
theorem Hp.ret {w w' : World} (hp : Hp [] w w' B R F) {R' : List RowD} (hR : R'.Sublist R) : Ret w w' R' [] := by
  have h := hp.weaken (B' := []) (R' := R') (F' := []) (List.nil_sublist _) hR (by simp)
  exact ⟨h.keep, h.row, h.nodup, fun g hg => (h.fresh g hg).resolve_left (by simp), by simp⟩
theorem sxq_done {fn : Func} {γ : Type} {V : γ → Value} {RW : γ → List RowD} {w : World} {e : Exit} (g : γ) {v : Value} (he : e = .ret ∨ e = .normal) (hres : ∀ a w', Fr n [] a l → Hp [] w w' B R F → (results fn a.tmps).run P w' = .ok v w')
    (hv : m = some r → v = V g) (hR : m = some r → (RW g).Sublist R) :
    SXQ n [] [] w (bodyPost P fn fun e w' => ∃ g : γ, e = .returned (V g) ∧ Ret w w' (RW g) []) e l B R F m r := by
  intro hm a w' hf hp
  have : ∃ v, (results fn a.tmps).run P w' = .ok v w' ∧ ∃ g : γ, Ending.returned v = .returned (V g) ∧ Ret w w' (RW g) [] :=
    ⟨v, hres a w' hf hp, g, by rw [hv hm], hp.ret (hR hm)⟩
  rcases he with rfl | rfl
  · exact ⟨hf.defers, this⟩
  · exact ⟨hf.defers, this⟩
theorem res1 {fn : Func} {t1 : Tmp} {v1 : Value} (h : fn.results = #[.tmp t1]) (h1 : look l t1 = some v1) {w : World} : ∀ a w', Fr n [] a l → Hp M0 w w' B R F → (results fn a.tmps).run P w' = .ok v1 w' := by
  intro a w' hf _
  rw [results_tmp h]
  have := hf.val _ _ h1
  simp [Array.getD_eq_getD_getElem?, this]
theorem res2 {fn : Func} {t1 t2 : Tmp} {v1 v2 : Value} (h : fn.results = #[.tmp t1, .tmp t2]) (h1 : look l t1 = some v1) (h2 : look l t2 = some v2) {w : World} : ∀ a w', Fr n [] a l → Hp M0 w w' B R F → (results fn a.tmps).run P w' = .ok (.tuple #[v1, v2]) w' := by
  intro a w' hf _
  rw [results_tmp2 h]
  have e1 := hf.val _ _ h1
  have e2 := hf.val _ _ h2
  simp [Array.getD_eq_getD_getElem?, e1, e2]
theorem res3 {fn : Func} {t1 t2 t3 : Tmp} {v1 v2 v3 : Value} (h : fn.results = #[.tmp t1, .tmp t2, .tmp t3]) (h1 : look l t1 = some v1) (h2 : look l t2 = some v2) (h3 : look l t3 = some v3) {w : World} : ∀ a w', Fr n [] a l → Hp M0 w w' B R F → (results fn a.tmps).run P w' = .ok (.tuple #[v1, v2, v3]) w' := by
  intro a w' hf _
  rw [results_tmp3 h]
  have e1 := hf.val _ _ h1
  have e2 := hf.val _ _ h2
  have e3 := hf.val _ _ h3
  simp [Array.getD_eq_getD_getElem?, e1, e2, e3]
end
end SX

namespace SX
open Go

theorem own_form {α : Type} {enc : α → List Value} {e : TypeId} {size : Nat} {v : Value} {xs : List α} {w : World} (h : (Ro enc e size v xs).own w) : ∃ a c, v = .slice a xs.length c := by
  obtain ⟨⟨a, cap, hv, _⟩, _⟩ := ownsRow_cells h
  exact ⟨a, cap, hv⟩
theorem Hp.rowForm {M0 : List Nat} {w0 w : World} {B : List BlkD} {R : List RowD} {F : List (World → Prop)} (hp : Hp M0 w0 w B R F) {α : Type} {enc : α → List Value} {e : TypeId} {size : Nat} {v : Value} {xs : List α} {j : Nat}
    (h : R[j]? = some (Ro enc e size v xs)) : ∃ a c, v = .slice a xs.length c := own_form (hp.row _ (List.mem_of_getElem? h))

section
variable {P : Program} {ro : Option Nat} {n : Nat} {D : List Deferred} {M0 : List Nat} {w0 : World} {Q : Exit → Act → World → Prop} {ρ : Type}
variable {ops : Array Oper} {rest : List Oper} {l : Env} {B : List BlkD} {R : List RowD} {F : List (World → Prop)} {m : Option ρ} {r : ρ}
variable {d : Nat} {t t' e : TypeId} {pos : String} {af : Array Edge} {gd : Option (Nat × Bool)} {agg : Bool} {z : Value} {size bytes : Nat}

theorem sxo_form {α : Type} {enc : α → List Value} {v : Value} {xs : List α} (hR : R[0]? = some (Ro enc e size v xs))
    (h : ∀ a c, v = .slice a xs.length c → SXO P ro n D M0 w0 Q ops rest l B R F m r) : SXO P ro n D M0 w0 Q ops rest l B R F m r :=
  fun hm a w hf hp => by
    obtain ⟨ao, c, hv⟩ := hp.rowForm hR
    exact h ao c hv hm a w hf hp
theorem sxo_formF {α : Type} {enc : α → List Value} {v : Value} {xs : List α} (hF : F[0]? = some (Sl enc size v xs))
    (h : ∀ a c, v = .slice a xs.length c → SXO P ro n D M0 w0 Q ops rest l B R F m r) : SXO P ro n D M0 w0 Q ops rest l B R F m r :=
  fun hm a w hf hp => by
    obtain ⟨⟨ao, c, hv, _⟩, _⟩ := ((hp.per _ (List.mem_of_getElem? hF)).here : Cells v xs.length size (xs.flatMap enc) w)
    exact h ao c hv hm a w hf hp
theorem sxo_slit {α : Type} {enc : α → List Value} {len : Nat} {parts : Array (Nat × Operand)} {vs : List Value} {ys : List α} (henc : EncOk enc size) (hs0 : size ≠ 0)
    (hw : wants ops l ⟨some d, .buildSlice t' len parts, t, pos, af, gd⟩ = some true) (ht : P.underlying t' = some (.slice e)) (hT : TyF P e agg z size bytes) (hzs : z.cells.size = size) (hd : Nat.blt d n = true)
    (hp : evParts l parts.toList = some (vs.zipIdx.map fun p => (p.2, p.1))) (hys : vs.map (fun v => v.cells.toList) = ys.map enc) (hl : len = ys.length) (hbig : len * size ≤ 16777216)
    (h : ∀ a c, SXO P ro n D M0 w0 Q ops rest ((d, .slice a ys.length c) :: l) B (Ro enc e size (.slice a ys.length c) ys :: R) F m r) :
    SXO P ro n D M0 w0 Q ops (⟨some d, .buildSlice t' len parts, t, pos, af, gd⟩ :: rest) l B R F m r :=
  sxo_buildSlice henc hs0 hw ht hT hzs hd hp hys hl hbig fun _ => sxo_form rfl fun a c hv => by subst hv; exact h a c
theorem sxo_app {α : Type} {enc : α → List Value} {xs ys : List α} {k : List α → Option ρ} {s x : Operand} {v u : Value} {lim : Nat} (i : Nat) (henc : EncOk enc size)
    (hw : wants ops l ⟨some d, .call ⟨.builtin .append, #[s, x], #[t', t']⟩, t, pos, af, gd⟩ = some true) (ht : P.underlying t' = some (.slice e)) (hT : TyF P e agg z size bytes) (hzs : z.cells.size = size) (hd : Nat.blt d n = true)
    (hs : ev l s = some v) (hx : ev l x = some u) (hR : R[i]? = some (Ro enc e size v xs)) (hu : (∃ (j : Nat) (e' : TypeId), R[j]? = some (Ro enc e' size u ys)) ∨ (∃ (j : Nat), F[j]? = some (Sl enc size u ys)))
    (hlim : Nat.ble lim 9223372036854775807 = true) (hlb : Nat.ble (lim * bytes) 140737488355328 = true)
    (h : ∀ zs, app lim xs ys = some zs → ∀ a c, SXO P ro n D M0 w0 Q ops rest ((d, .slice a zs.length c) :: l) B (Ro enc e size (.slice a zs.length c) zs :: R.eraseIdx i) F (k zs) r) :
    SXO P ro n D M0 w0 Q ops (⟨some d, .call ⟨.builtin .append, #[s, x], #[t', t']⟩, t, pos, af, gd⟩ :: rest) l B R F ((app lim xs ys).bind k) r :=
  sxo_append i henc hw ht hT hzs hd hs hx hR hu (Nat.le_of_ble_eq_true hlim) (Nat.le_of_ble_eq_true hlb) fun zs hz _ => sxo_form rfl fun a c hv => by subst hv; exact h zs hz a c
theorem sxo_mk {α : Type} {enc : α → List Value} {y : α} {k : List α → Option ρ} {x c : Operand} {kl kc : IntKind} {i : Int} {lim : Nat} (henc : EncOk enc 1)
    (hw : wants ops l ⟨some d, .makeSlice t' x c, t, pos, af, gd⟩ = some true) (ht : P.underlying t' = some (.slice e)) (hT : TyF P e agg z 1 bytes) (hx : ev l x = some (.int kl i)) (hc : ev l c = some (.int kc i))
    (hz : z.cells = #[z]) (hy : enc y = [z]) (hlim : Nat.ble lim 9223372036854775807 = true) (hlb : Nat.ble (lim * bytes) 281474976710656 = true) (hd : Nat.blt d n = true)
    (h : ∀ ys, mk lim y i = some ys → ∀ a c, SXO P ro n D M0 w0 Q ops rest ((d, .slice a ys.length c) :: l) B (Ro enc e 1 (.slice a ys.length c) ys :: R) F (k ys) r) :
    SXO P ro n D M0 w0 Q ops (⟨some d, .makeSlice t' x c, t, pos, af, gd⟩ :: rest) l B R F ((mk lim y i).bind k) r :=
  sxo_make henc hw ht hT hx hc hz hy (Nat.le_of_ble_eq_true hlim) (Nat.le_of_ble_eq_true hlb) hd fun ys hys _ => sxo_form rfl fun a c hv => by subst hv; exact h ys hys a c
theorem sxo_cut {α : Type} {enc : α → List Value} {xs : List α} {k : List α → Option ρ} {x : Operand} {lo hi : Option Operand} {li hj : Int} {v : Value} {j : Nat} (henc : EncOk enc size)
    (hw : wants ops l ⟨some d, .slice t' x lo hi none, t, pos, af, gd⟩ = some true) (ht : P.underlying t' = some (.slice e)) (hT : TyF P e agg z size bytes) (hx : ev l x = some v)
    (hlo : evOpt l lo 0 = some li) (hhi : evOpt l hi (xs.length : Int) = some hj)
    (hF : F[j]? = some (Sl enc size v xs)) (hd : Nat.blt d n = true)
    (h : ∀ ys, sub xs li hj = some ys → ∀ a c, SXO P ro n D M0 w0 Q ops rest ((d, .slice a ys.length c) :: l) B R (Sl enc size (.slice a ys.length c) ys :: F) (k ys) r) :
    SXO P ro n D M0 w0 Q ops (⟨some d, .slice t' x lo hi none, t, pos, af, gd⟩ :: rest) l B R F ((sub xs li hj).bind k) r :=
  sxo_cutF henc hw ht hT hx hlo hhi hF hd fun ys hys _ => sxo_formF rfl fun a c hv => by subst hv; exact h ys hys a c
/-- An address is there: a nil check. -/
theorem sxo_nilCheck {x : Operand} {ad : Addr} (hw : wants ops l ⟨some d, .nilCheck x, t, pos, af, gd⟩ = some true) (hx : ev l x = some (.pointer (some ad))) (hd : Nat.blt d n = true)
    (h : SXO P ro n D M0 w0 Q ops rest ((d, .pointer (some ad)) :: l) B R F m r) : SXO P ro n D M0 w0 Q ops (⟨some d, .nilCheck x, t, pos, af, gd⟩ :: rest) l B R F m r :=
  sxo_val _ hw rfl hd (fun a w hf _ => by
    have h1 := hf.ev hx
    generalize a.eval = ε at h1 ⊢
    simp [execOp, h1]) h
/-- A struct written out. -/
structure StF (P : Program) (t : TypeId) (places : List (Nat × Nat)) (z : Value) : Prop where
  out : ∃ fs, P.underlying t = some (.struct fs) ∧ (fs.toList.map fun f => (f.offset, P.cellsOf f.type)) = places ∧ (∀ f ∈ fs.toList, ∃ i, P.info? f.type = some i)
  zero : ∃ i, P.info? t = some i ∧ i.zero = some z
theorem StF.of {P : Program} {t : TypeId} {places : List (Nat × Nat)} {z : Value} (h : (match P.underlying t with | some (.struct fs) => (fs.toList.map fun f => (f.offset, P.cellsOf f.type)) == places && fs.toList.all (fun f => (P.info? f.type).isSome) | _ => false) = true)
    (h' : (P.info? t).map (fun i => i.zero) = some (some z)) : StF P t places z := by
  split at h
  · rename_i fs hfs
    simp only [Bool.and_eq_true, beq_iff_eq, List.all_eq_true] at h
    refine ⟨⟨fs, hfs, h.1, fun f hf => Option.isSome_iff_exists.1 (h.2 f hf)⟩, Option.map_eq_some_iff.1 h'⟩
  · simp at h
theorem mapM_sizes {P : Program} {w : World} : ∀ (fs : List Field), (∀ f ∈ fs, ∃ i, P.info? f.type = some i) → (fs.mapM (fun f => Prod.mk f.offset <$> Go.sizeOf f.type) : Sem (List (Nat × Nat))).run P w = .ok (fs.map fun f => (f.offset, P.cellsOf f.type)) w := by
  intro fs
  induction fs with
  | nil => intro _; simp
  | cons f fs ih =>
    intro h
    obtain ⟨i, hi⟩ := h f (by simp)
    have ih' := ih fun g hg => h g (by simp [hg])
    simp only [List.mapM_cons]
    generalize (fs.mapM (fun f => Prod.mk f.offset <$> Go.sizeOf f.type) : Sem (List (Nat × Nat))) = q at ih'
    simp [Go.sizeOf, typeInfo, hi, ih', Program.cellsOf]
theorem sxo_build {parts : Array (Nat × Operand)} {vs : List (Nat × Value)} {places : List (Nat × Nat)} {cells : List Value} (hw : wants ops l ⟨some d, .build t' parts, t, pos, af, gd⟩ = some true) (hS : StF P t' places z) (hp : evParts l parts.toList = some vs)
    (hfill : Instr.fill (places.toArray[·]?) z.cells vs = some cells.toArray) (hd : Nat.blt d n = true)
    (h : SXO P ro n D M0 w0 Q ops rest ((d, .agg cells.toArray) :: l) B R F m r) : SXO P ro n D M0 w0 Q ops (⟨some d, .build t' parts, t, pos, af, gd⟩ :: rest) l B R F m r :=
  sxo_val _ hw rfl hd (fun a w hf _ => by
    have hpe := hf.evParts hp
    have hpa : (parts.map fun p => (p.1, a.eval p.2)) = vs.toArray := by rw [← hpe, ← Array.toList_map, Array.toArray_toList]
    obtain ⟨fs, hu, hpl, hin⟩ := hS.out
    obtain ⟨i, hi, hz⟩ := hS.zero
    have hm := mapM_sizes (P := P) (w := w) fs.toList hin
    rw [hpl] at hm
    have hm' : (fs.mapM (fun f => Prod.mk f.offset <$> Go.sizeOf f.type) : Sem (Array (Nat × Nat))).run P w = .ok places.toArray w := by
      rw [Array.mapM_eq_mapM_toList]
      generalize (fs.toList.mapM (fun f => Prod.mk f.offset <$> Go.sizeOf f.type) : Sem (List (Nat × Nat))) = q at hm
      simp [hm]
    generalize a.eval = ε at hpa ⊢
    simp only [execOp, hpa, Instr.build]
    have hfill' : Instr.fill (fun x => places.toArray[x]?) z.cells vs = some cells.toArray := hfill
    generalize hq : (fs.mapM (fun f => Prod.mk f.offset <$> Go.sizeOf f.type) : Sem (Array (Nat × Nat))) = q at hm'
    simp [zeroValue, typeInfo, hi, hz, run_underlying hu, hq, hm']
    simp only [List.getElem?_toArray] at hfill'
    rw [hfill']
    simp) h

theorem lk_nil : ∀ p ∈ ([] : Env), look l p.1 = some p.2 := by simp
theorem lk_cons {k : Nat} {v : Value} {r : Env} (h : look l k = some v) (hr : ∀ p ∈ r, look l p.1 = some p.2) : ∀ p ∈ ((k, v) :: r), look l p.1 = some p.2 := by
  intro p hp
  rcases List.mem_cons.1 hp with rfl | hp
  · exact h
  · exact hr p hp
theorem fk_nil : ∀ φ ∈ ([] : List (World → Prop)), φ ∈ F := by simp
theorem fk_cons {φ : World → Prop} {r : List (World → Prop)} (j : Nat) (h : F[j]? = some φ) (hr : ∀ φ ∈ r, φ ∈ F) : ∀ ψ ∈ (φ :: r), ψ ∈ F := by
  intro p hp
  rcases List.mem_cons.1 hp with rfl | hp
  · exact List.mem_of_getElem? h
  · exact hr p hp
inductive Pick {α : Type} : List α → List α → Prop
  | nil {R : List α} : Pick R []
  | cons {R R' : List α} {r : α} (i : Nat) (h : R[i]? = some r) (hp : Pick (R.eraseIdx i) R') : Pick R (r :: R')
theorem Pick.perm {α : Type} {R R' : List α} (h : Pick R R') : ∃ S, R.Perm (R' ++ S) := by
  induction h with
  | nil => exact ⟨_, List.Perm.refl _⟩
  | cons i h _ ih =>
    obtain ⟨S, hS⟩ := ih
    obtain ⟨R1, R2, rfl, he⟩ := split_at h
    rw [he] at hS
    refine ⟨S, List.perm_middle.trans ?_⟩
    exact List.Perm.cons _ hS
theorem Hp.pick {w : World} {B' : List BlkD} {R' : List RowD} {F' : List (World → Prop)} (h : Hp M0 w0 w B R F) (hB : Pick B B') (hR : Pick R R') (hF : ∀ φ ∈ F', φ ∈ F) : Hp M0 w0 w B' R' F' := by
  obtain ⟨S, hS⟩ := hR.perm
  obtain ⟨T, hT⟩ := hB.perm
  have hp : (muts B R).Perm (muts (B' ++ T) (R' ++ S)) := (hT.map _).append (hS.filterMap _)
  have h2 : Hp M0 w0 w (B' ++ T) (R' ++ S) F :=
    { keep := h.keep, blk := fun b hb => h.blk b (hT.mem_iff.2 hb), row := fun r hr => h.row r (hS.mem_iff.2 hr), nodup := hp.nodup_iff.1 h.nodup,
      fresh := fun g hg => h.fresh g (hp.mem_iff.2 hg), per := fun φ hφ => (h.per φ hφ).less fun k hk => hp.mem_iff.2 hk }
  exact h2.weaken (List.sublist_append_left _ _) (List.sublist_append_left _ _) hF
theorem sxq_meetP {S : Type} {I : S → Env} {IB : S → List BlkD} {IR : S → List RowD} {IF : S → List (World → Prop)} {mj : S → Option ρ} {K : Exit → Act → World → Prop} (s : S)
    (hI : ∀ p ∈ I s, look l p.1 = some p.2) (hB : Pick B (IB s)) (hR : Pick R (IR s)) (hF : ∀ φ ∈ IF s, φ ∈ F) :
    SXQ n D M0 w0 (Exit.then (fun a w => ∃ s, mj s = some r ∧ Fr n D a (I s) ∧ Hp M0 w0 w (IB s) (IR s) (IF s)) K) .normal l B R F (mj s) r :=
  fun hm _ _ hf hp => ⟨s, hm, hf.less hI, hp.pick hB hR hF⟩
theorem sxq_againP {S : Type} {I : S → Env} {IB : S → List BlkD} {IR : S → List RowD} {IF : S → List (World → Prop)} {ml : Nat → S → Option ρ} {K : Exit → Act → World → Prop} {k : Nat} (s : S)
    (hI : ∀ p ∈ I s, look l p.1 = some p.2) (hB : Pick B (IB s)) (hR : Pick R (IR s)) (hF : ∀ φ ∈ IF s, φ ∈ F) :
    SXQ n D M0 w0 (Exit.then (fun a w => ∃ k' < k + 1, ∃ s, ml k' s = some r ∧ Fr n D a (I s) ∧ Hp M0 w0 w (IB s) (IR s) (IF s)) K) .normal l B R F (ml k s) r :=
  fun hm _ _ hf hp => ⟨k, Nat.lt_succ_self k, s, hm, hf.less hI, hp.pick hB hR hF⟩
theorem sxc_loopP {S : Type} {c : Code} (I : S → Env) (IB : S → List BlkD) (IR : S → List RowD) (IF : S → List (World → Prop)) (ml : Nat → S → Option ρ) (s0 : S) (k0 : Nat)
    (hI : ∀ p ∈ I s0, look l p.1 = some p.2) (hB : Pick B (IB s0)) (hR : Pick R (IR s0)) (hF : ∀ φ ∈ IF s0, φ ∈ F)
    (hz : ∀ s, ml 0 s = none)
    (hround : ∀ k s, SXC P ro n D M0 w0 (Exit.then (fun a w => ∃ k' < k + 1, ∃ s, ml k' s = some r ∧ Fr n D a (I s) ∧ Hp M0 w0 w (IB s) (IR s) (IF s)) Q) c (I s) (IB s) (IR s) (IF s) (ml (k + 1) s) r) :
    SXC P ro n D M0 w0 Q (.loop c) l B R F (ml k0 s0) r := by
  intro hm a w hf hp
  refine wp_loop_ex (fun k a w => ∃ s, ml k s = some r ∧ Fr n D a (I s) ∧ Hp M0 w0 w (IB s) (IR s) (IF s)) ⟨k0, s0, hm, hf.less hI, hp.pick hB hR hF⟩ fun k a w hI => ?_
  obtain ⟨s, h1, h2, h3⟩ := hI
  cases k with
  | zero => rw [hz s] at h1; simp at h1
  | succ k => exact hround k s h1 a w h2 h3
theorem Hp.retP {w w' : World} (hp : Hp [] w w' B R F) {R' : List RowD} (hR : Pick R R') : Ret w w' R' [] := by
  have h := hp.pick (B' := []) (R' := R') (F' := []) .nil hR (by simp)
  exact ⟨h.keep, h.row, h.nodup, fun g hg => (h.fresh g hg).resolve_left (by simp), by simp⟩
/-- The end: the slots of the results hold what the model gave. -/
theorem sxq_doneP {fn : Func} {γ : Type} {V : γ → Value} {RW : γ → List RowD} {w : World} {x : ρ} {e : Exit} (g : γ) {v : Value} (he : e = .ret ∨ e = .normal) (hres : ∀ a w', Fr n [] a l → Hp [] w w' B R F → (results fn a.tmps).run P w' = .ok v w')
    (hv : x = r → v = V g) (hR : x = r → Pick R (RW g)) :
    SXQ n [] [] w (bodyPost P fn fun e w' => ∃ g : γ, e = .returned (V g) ∧ Ret w w' (RW g) []) e l B R F (some x) r := by
  intro hm a w' hf hp
  have hx : x = r := by simpa using hm
  have : ∃ v, (results fn a.tmps).run P w' = .ok v w' ∧ ∃ g : γ, Ending.returned v = .returned (V g) ∧ Ret w w' (RW g) [] :=
    ⟨v, hres a w' hf hp, g, by rw [hv hx], hp.retP (hR hx)⟩
  rcases he with rfl | rfl
  · exact ⟨hf.defers, this⟩
  · exact ⟨hf.defers, this⟩
theorem res0 {fn : Func} (h : fn.results = #[]) {w : World} : ∀ a w', Fr n [] a l → Hp M0 w w' B R F → (results fn a.tmps).run P w' = .ok (.tuple #[]) w' := by
  intro a w' _ _
  exact results_none h _ _ _

theorem sxc_meq {c : Code} {m' : Option ρ} (h : m = m') (hs : SXC P ro n D M0 w0 Q c l B R F m' r) : SXC P ro n D M0 w0 Q c l B R F m r := h ▸ hs
theorem sxc_env {c : Code} {l' : Env} (h : l = l') (hs : SXC P ro n D M0 w0 Q c l' B R F m r) : SXC P ro n D M0 w0 Q c l B R F m r := h ▸ hs
theorem sxc_nilrow {c : Code} (α : Type) (enc : α → List Value) (e : TypeId) (size : Nat) (h : SXC P ro n D M0 w0 Q c l B (Ro enc e size (.slice none 0 0) ([] : List α) :: R) F m r) : SXC P ro n D M0 w0 Q c l B R F m r :=
  fun hm a w hf hp => h hm a w hf (hp.addRow (Keeps.refl _ _) ⟨by simp [Ro], .inl ⟨rfl, rfl⟩⟩ (by simp [Ro, Value.ownBlock]))
theorem sxq_nilrow {ex : Exit} (α : Type) (enc : α → List Value) (e : TypeId) (size : Nat) (h : SXQ n D M0 w0 Q ex l B (Ro enc e size (.slice none 0 0) ([] : List α) :: R) F m r) : SXQ n D M0 w0 Q ex l B R F m r :=
  fun hm a w hf hp => h hm a w hf (hp.addRow (Keeps.refl _ _) ⟨by simp [Ro], .inl ⟨rfl, rfl⟩⟩ (by simp [Ro, Value.ownBlock]))
theorem sxo_nilrow' (α : Type) (enc : α → List Value) (e : TypeId) (size : Nat) (h : SXO P ro n D M0 w0 Q ops rest l B (Ro enc e size (.slice none 0 0) ([] : List α) :: R) F m r) : SXO P ro n D M0 w0 Q ops rest l B R F m r :=
  sxo_nilrow enc e size h

/-! ### Ways that part and meet again inside a region -/
theorem Oper.uponIn_mono {o : Oper} {a : Act} {K K' : Act → World → Prop} {Q' : Exit → Act → World → Prop} (hK : ∀ a w, K a w → K' a w) (hQ : ∀ c a w, Q (.panic c) a w → Q' (.panic c) a w) (hout : LetsOut Q → LetsOut Q') :
    ∀ x, o.uponIn (Wd ro) 0 P a K Q x → o.uponIn (Wd ro) 0 P a K' Q' x := by
  intro x h
  cases x with
  | halt y w => cases y <;> first | exact hQ _ _ _ h | exact h
  | ok y w =>
    cases y with
    | value v => exact hK _ _ h
    | skip => exact hK _ _ h
    | defer d => exact hK _ _ h
    | enter f args =>
      refine ⟨h.1, h.2.mono fun e w' he => ?_⟩
      cases e with
      | returned v => exact hK _ _ he
      | panicked ch => exact hQ _ _ _ he
      | outgrown => exact hout he
    | row row args => exact ⟨h.1, h.2.mono fun v w' he => hK _ _ he⟩
    | round l f tmps assign body =>
      refine ⟨h.1, h.2.mono fun e w' he => ?_⟩
      cases e with
      | returned v => exact hK _ _ he
      | panicked ch => exact hQ _ _ _ he
      | outgrown => exact hout he
    | _ => exact h
theorem gwpList_mono {Q' : Exit → Act → World → Prop} (hQ : ∀ e a w, Q e a w → Q' e a w) : ∀ (os : List Oper) (a : Act) (w : World), gwpList ro P ops Q os a w → gwpList ro P ops Q' os a w := by
  intro os
  induction os with
  | nil => intro a w h; exact hQ _ _ _ h
  | cons o os ih =>
    intro a w h
    unfold gwpList wpListIn at h ⊢
    split
    · rename_i hw
      rw [if_pos hw] at h
      exact ⟨h.1, Oper.uponIn_mono (fun a w => ih a w) (fun c => hQ _) (fun ⟨a, w, h⟩ => ⟨a, w, hQ _ _ _ h⟩) _ h.2⟩
    · rename_i hw
      rw [if_neg hw] at h
      exact ⟨h.1, ih _ _ h.2⟩
theorem gwpList_append {os2 : List Oper} : ∀ (os1 : List Oper) (a : Act) (w : World), gwpList ro P ops (Exit.then (gwpList ro P ops Q os2) Q) os1 a w → gwpList ro P ops Q (os1 ++ os2) a w := by
  intro os1
  induction os1 with
  | nil => intro a w h; exact h
  | cons o os ih =>
    intro a w h
    rw [List.cons_append]
    unfold gwpList wpListIn at h ⊢
    split
    · rename_i hw
      rw [if_pos hw] at h
      exact ⟨h.1, Oper.uponIn_mono (fun a w => ih a w) (fun c a w h => h) (fun h => h) _ h.2⟩
    · rename_i hw
      rw [if_neg hw] at h
      exact ⟨h.1, ih _ _ h.2⟩
/-- A place inside a region where ways meet. -/
theorem sxo_join {S : Type} (k : Nat) (I : S → Env) (IB : S → List BlkD) (IR : S → List RowD) (IF : S → List (World → Prop)) (mj : S → Option ρ)
    (hx : SXO P ro n D M0 w0 (Exit.then (fun a w => ∃ s, mj s = some r ∧ Fr n D a (I s) ∧ Hp M0 w0 w (IB s) (IR s) (IF s)) Q) ops (rest.take k) l B R F m r)
    (hy : ∀ s, SXO P ro n D M0 w0 Q ops (rest.drop k) (I s) (IB s) (IR s) (IF s) (mj s) r) : SXO P ro n D M0 w0 Q ops rest l B R F m r := by
  intro hm a w hf hp
  rw [← List.take_append_drop k rest]
  refine gwpList_append _ a w (gwpList_mono (fun e a w hq => ?_) _ _ _ (hx hm a w hf hp))
  cases e with
  | normal => obtain ⟨s, h1, h2, h3⟩ := hq; exact hy s h1 a w h2 h3
  | _ => exact hq
theorem sxo_take {os : List Oper} (h : rest = os) (hs : SXO P ro n D M0 w0 Q ops os l B R F m r) : SXO P ro n D M0 w0 Q ops rest l B R F m r := h ▸ hs
/-- The same where nothing but one slot differs. -/
theorem sxo_case (k : Nat) (b : Bool) (I : Env)
    (h1 : b = true → SXO P ro n D M0 w0 (Exit.then (fun a w => ∃ _s : Unit, m = some r ∧ Fr n D a I ∧ Hp M0 w0 w B R F) Q) ops (rest.take k) l B R F m r)
    (h2 : b = false → SXO P ro n D M0 w0 (Exit.then (fun a w => ∃ _s : Unit, m = some r ∧ Fr n D a I ∧ Hp M0 w0 w B R F) Q) ops (rest.take k) l B R F m r)
    (h : SXO P ro n D M0 w0 Q ops (rest.drop k) I B R F m r) : SXO P ro n D M0 w0 Q ops rest l B R F m r := by
  refine sxo_join (S := Unit) k (fun _ => I) (fun _ => B) (fun _ => R) (fun _ => F) (fun _ => m) ?_ (fun _ => h)
  cases b
  · exact h2 rfl
  · exact h1 rfl
theorem sxq_case {I : Env} {K : Exit → Act → World → Prop} (hI : ∀ p ∈ I, look l p.1 = some p.2) :
    SXQ n D M0 w0 (Exit.then (fun a w => ∃ _s : Unit, m = some r ∧ Fr n D a I ∧ Hp M0 w0 w B R F) K) .normal l B R F m r :=
  fun hm _ _ hf hp => ⟨(), hm, hf.less hI, hp⟩
/-- A bool's value where a test has decided it. -/
theorem sxo_isT {k : Nat} {b : Bool} (hu : look l k = some (.bool b)) (hb : b = true) (h : SXO P ro n D M0 w0 Q ops rest ((k, .bool true) :: l) B R F m r) : SXO P ro n D M0 w0 Q ops rest l B R F m r :=
  sxo_again hu (by rw [hb]) h
theorem sxo_isF {k : Nat} {b : Bool} (hu : look l k = some (.bool b)) (hb : b = false) (h : SXO P ro n D M0 w0 Q ops rest ((k, .bool false) :: l) B R F m r) : SXO P ro n D M0 w0 Q ops rest l B R F m r :=
  sxo_again hu (by rw [hb]) h
end
end SX

namespace SX
open Go

/-- What of the heap stays as it is through a region that draws its order. -/
def Stay (B : List BlkD) (F : List (World → Prop)) (w : World) : Prop := (∀ b ∈ B, b.is w) ∧ ∀ φ ∈ F, φ w
def Yv (P : Program) (l : Env) (B : List BlkD) (F : List (World → Prop)) (o : Oper) (V : Value) : Prop :=
  ∀ (n : Nat) (D : List Deferred) (a : Act) (w : World), Fr n D a l → Stay B F w → (execOp a.eval o).run P w = .ok (.value V) w

def binv (op : BinOp) (k : IntKind) (a : Int) (k' : IntKind) (b : Int) : Option Value :=
  match op with
  | .add => if k = k' then some (.int k (iadd k a b)) else none
  | .sub => if k = k' then some (.int k (isub k a b)) else none
  | .mul => if k = k' then some (.int k (imul k a b)) else none
  | .and => if k = k' then some (.int k (iand k a b)) else none
  | .or => if k = k' then some (.int k (ior k a b)) else none
  | .xor => if k = k' then some (.int k (ixor k a b)) else none
  | .lss => if k = k' then some (.bool (decide (a < b))) else none
  | .leq => if k = k' then some (.bool (decide (a ≤ b))) else none
  | .gtr => if k = k' then some (.bool (decide (b < a))) else none
  | .geq => if k = k' then some (.bool (decide (b ≤ a))) else none
  | .eql => if k = k' then some (.bool (a == b)) else none
  | .neq => if k = k' then some (.bool (a != b)) else none
  | _ => none
def pv (l : Env) : Op → Option Value
  | .move x => ev l x
  | .assign x => ev l x
  | .pick c x y => match ev l c with
    | some (.bool b) => ev l (bif b then x else y)
    | _ => none
  | .binOp op _ x y _ => match ev l x, ev l y with
    | some (.int k a), some (.int k' b) => binv op k a k' b
    | _, _ => none
  | .unOp .not _ x => match ev l x with
    | some (.bool b) => some (.bool (!b))
    | _ => none
  | .unOp .neg _ x => match ev l x with
    | some (.int k b) => some (.int k (isub k 0 b))
    | _ => none
  | .extract x i => match ev l x with
    | some (.tuple vs) => vs[i]?
    | _ => none
  | .nilCheck x => match ev l x with
    | some (.pointer (some a)) => some (.pointer (some a))
    | _ => none
  | _ => none

section
variable {P : Program} {l : Env} {B : List BlkD} {F : List (World → Prop)} {t t' e : TypeId} {pos : String} {af : Array Edge} {gd : Option (Nat × Bool)} {d : Option Tmp} {agg : Bool} {z : Value} {size bytes : Nat}
theorem binv_ok {op : BinOp} {k k' : IntKind} {a b : Int} {V : Value} {xt : TypeId} {x y : Operand} (h : binv op k a k' b = some V) (w : World) :
    (do eqGuard op xt x y (.int k a) (.int k' b); binOp op xt (.int k a) (.int k' b) : Sem Value).run P w = .ok V w := by
  cases op <;> simp only [binv] at h <;> first
    | (split at h
       · rename_i hk
         subst hk
         simp only [Option.some.injEq] at h
         subst h
         simp [eqGuard, binOp, Op.intArith, Op.intBits, Op.intCmp, iadd, isub, imul, iand, ior, ixor]
       · simp at h)
    | simp at h
theorem yv_pv {op : Op} {V : Value} (h : pv l op = some V) : Yv P l B F ⟨d, op, t, pos, af, gd⟩ V := by
  intro n D a w hf _
  cases op with
  | move x => show Result.ok (Next.value (a.eval x)) w = _; rw [hf.ev h]
  | assign x => show Result.ok (Next.value (a.eval x)) w = _; rw [hf.ev h]
  | pick c x y =>
    simp only [pv] at h
    split at h
    · rename_i b hc
      have h1 := hf.ev hc
      have h2 := hf.ev h
      generalize a.eval = ε at h1 h2 ⊢
      cases b <;> simp_all [execOp, asBool]
    · simp at h
  | binOp op xt x y yt =>
    simp only [pv] at h
    split at h
    · rename_i k a' k' b' hx hy
      have h1 := hf.ev hx
      have h2 := hf.ev hy
      have h3 := binv_ok (P := P) (xt := xt) (x := x) (y := y) h w
      generalize a.eval = ε at h1 h2 ⊢
      simp only [execOp, h1, h2]
      generalize (do eqGuard op xt x y (.int k a') (.int k' b'); binOp op xt (.int k a') (.int k' b') : Sem Value) = q at h3
      simp [h3]
    · simp at h
  | unOp u xt x =>
    cases u <;> simp only [pv] at h <;> first
      | (split at h
         · rename_i b hc
           have h1 := hf.ev hc
           simp only [Option.some.injEq] at h
           subst h
           generalize a.eval = ε at h1 ⊢
           simp [execOp, h1, Op.unary, Op.intArith, isub]
         · simp at h)
      | simp at h
  | extract x i =>
    simp only [pv] at h
    split at h
    · rename_i vs hc
      have h1 := hf.ev hc
      generalize a.eval = ε at h1 ⊢
      simp [execOp, h1, Instr.extract, h]
    · simp at h
  | nilCheck x =>
    simp only [pv] at h
    split at h
    · rename_i ad hc
      have h1 := hf.ev hc
      simp only [Option.some.injEq] at h
      subst h
      generalize a.eval = ε at h1 ⊢
      simp [execOp, h1]
    · simp at h
  | _ => simp [pv] at h
theorem yv_conv {x : Operand} {s : TypeId} {k k' : IntKind} {b : Int} {ds : TypeDesc} (hs : P.underlying s = some ds) (ht : P.underlying t' = some (.int k)) (hx : ev l x = some (.int k' b)) :
    Yv P l B F ⟨d, .convert s t' x, t, pos, af, gd⟩ (.int k (iconv k b)) := fun n D a w hf _ => by
  have h1 := hf.ev hx
  generalize a.eval = e at h1 ⊢
  simp [execOp, h1, convert, run_underlying ht, run_underlying hs, Conv.intToInt, iconv]
theorem yv_len {x : Operand} {s e' : TypeId} {ao : Option Addr} {k c : Nat} (ht : P.underlying s = some (.slice e')) (hx : ev l x = some (.slice ao k c)) :
    Yv P l B F ⟨d, .call ⟨.builtin .len, #[x], #[s]⟩, t, pos, af, gd⟩ (.int .i64 (k : Int)) := fun n D a w hf _ => by
  have h1 := hf.ev hx
  generalize a.eval = e at h1 ⊢
  simp [execOp, h1, resolve, invoke, builtin, Builtin.len_, run_underlying ht, goInt]
theorem yv_fieldAddr {x : Operand} {g o i off : Nat} {s : TypeId} (hx : ev l x = some (.pointer (some ⟨g, o, none⟩))) (hF : FdF P s i off) :
    Yv P l B F ⟨d, .fieldAddr s x i, t, pos, af, gd⟩ (.pointer (some ⟨g, o + off, none⟩)) := fun n D a w hf _ => by
  have h1 := hf.ev hx
  obtain ⟨fs, f, hu, hf1, hf2, j, hj, hjs⟩ := hF.out
  generalize a.eval = ε at h1 ⊢
  simp [execOp, h1, Instr.fieldAt, run_underlying hu, hf1, Instr.sureAddr, fieldPlace, Go.sizeOf, typeInfo, hj, hjs, hf2, addr_add]
theorem yv_loadB {x : Operand} {i g o : Nat} {cs : List Value} {V : Value} (hx : ev l x = some (.pointer (some ⟨g, o, none⟩))) (hT : TyF P t' agg z size bytes)
    (hB : B[i]? = some ⟨g, e, cs⟩) (hl : ((cs.drop o).take size).length = size) (hs : agg = false → size = 1) (hV : (if agg then .agg ((cs.drop o).take size).toArray else ((cs.drop o).take size).getD 0 undef) = V) :
    Yv P l B F ⟨d, .load t' x, t, pos, af, gd⟩ V := fun n D a w hf hp => by
  have h1 := hf.ev hx
  have hb := hp.1 _ (List.mem_of_getElem? hB)
  have hc : CellsAt g o ((cs.drop o).take size) w := by
    intro j u hj
    have hlt : j < size := by have := (List.getElem?_eq_some_iff.1 hj).1; simp at this; omega
    rw [List.getElem?_take_of_lt hlt, List.getElem?_drop] at hj
    have hb' : w.heap[g]? = some (.cells cs.toArray e (0, 0)) := hb
    simp [World.cell?, hb', hj]
  have hr := run_loadVar hT hc hl hV.symm hs
  generalize a.eval = ε at h1 ⊢
  simp [execOp, h1, Instr.loadAt, Instr.sureAddr, hr]
theorem yv_loadF {x : Operand} {j b o : Nat} {cs : List Value} {V : Value} (hx : ev l x = some (.pointer (some ⟨b, o, none⟩))) (hT : TyF P t' agg z size bytes)
    (hF : F[j]? = some (CellsAt b o cs)) (hl : cs.length = size) (hs : agg = false → size = 1) (hV : (if agg then .agg cs.toArray else cs.getD 0 undef) = V) :
    Yv P l B F ⟨d, .load t' x, t, pos, af, gd⟩ V := fun n D a w hf hp => by
  have h1 := hf.ev hx
  have hc : CellsAt b o cs w := hp.2 _ (List.mem_of_getElem? hF)
  have hr := run_loadVar hT hc hl hV.symm hs
  generalize a.eval = ε at h1 ⊢
  simp [execOp, h1, Instr.loadAt, Instr.sureAddr, hr]
theorem yv_idx {x ix : Operand} {ki : IntKind} {i : Int} {b0 o0 k c : Nat} (ht : P.underlying t' = some (.slice e)) (hT : TyF P e agg z size bytes) (hx : ev l x = some (.slice (some ⟨b0, o0, none⟩) k c)) (hi : ev l ix = some (.int ki i))
    (h0 : 0 ≤ i) (h1 : i < (k : Int)) : Yv P l B F ⟨d, .indexAddr t' x ix, t, pos, af, gd⟩ (.pointer (some ⟨b0, o0 + i.toNat * size, none⟩)) := fun n D a w hf _ => by
  have e1 := hf.ev hx
  have e2 := hf.ev hi
  generalize a.eval = ε at e1 e2 ⊢
  simp [execOp, e1, e2, Instr.indexAt, asIntOf, run_underlying ht, hT.run_size, h0, h1, addr_add]
theorem yv_quo {x y : Operand} {xt yt : TypeId} {k : IntKind} {a b : Int} (hx : ev l x = some (.int k a)) (hy : ev l y = some (.int k b)) (hb : (b != 0) = true) :
    Yv P l B F ⟨d, .binOp .quo xt x y yt, t, pos, af, gd⟩ (.int k (iquo k a b)) := fun n D a w hf _ => by
  have h1 := hf.ev hx
  have h2 := hf.ev hy
  have hb' : b ≠ 0 := by simpa using hb
  generalize a.eval = e at h1 h2 ⊢
  simp [execOp, h1, h2, eqGuard, binOp, Op.intDiv, iquo, hb']
theorem yv_rem {x y : Operand} {xt yt : TypeId} {k : IntKind} {a b : Int} (hx : ev l x = some (.int k a)) (hy : ev l y = some (.int k b)) (hb : (b != 0) = true) :
    Yv P l B F ⟨d, .binOp .rem xt x y yt, t, pos, af, gd⟩ (.int k (irem a b)) := fun n D a w hf _ => by
  have h1 := hf.ev hx
  have h2 := hf.ev hy
  have hb' : b ≠ 0 := by simpa using hb
  generalize a.eval = e at h1 h2 ⊢
  simp [execOp, h1, h2, eqGuard, binOp, Op.intDiv, irem, hb']
theorem yv_shl {x y : Operand} {xt yt : TypeId} {k k' : IntKind} {a b : Int} (hx : ev l x = some (.int k a)) (hy : ev l y = some (.int k' b)) (hb : decide (0 ≤ b) = true) :
    Yv P l B F ⟨d, .binOp .shl xt x y yt, t, pos, af, gd⟩ (.int k (ishl k a b)) := fun n D a w hf _ => by
  have h1 := hf.ev hx
  have h2 := hf.ev hy
  have hb' : ¬ b < 0 := by simpa using hb
  generalize a.eval = e at h1 h2 ⊢
  simp [execOp, h1, h2, eqGuard, binOp, Op.shift, ishl, hb']
theorem yv_shr {x y : Operand} {xt yt : TypeId} {k k' : IntKind} {a b : Int} (hx : ev l x = some (.int k a)) (hy : ev l y = some (.int k' b)) (hb : decide (0 ≤ b) = true) :
    Yv P l B F ⟨d, .binOp .shr xt x y yt, t, pos, af, gd⟩ (.int k (ishr k a b)) := fun n D a w hf _ => by
  have h1 := hf.ev hx
  have h2 := hf.ev hy
  have hb' : ¬ b < 0 := by simpa using hb
  generalize a.eval = e at h1 h2 ⊢
  simp [execOp, h1, h2, eqGuard, binOp, Op.shift, ishr, hb']
end

section
variable {P : Program} {ro : Option Nat} {n : Nat} {D : List Deferred} {M0 : List Nat} {w0 : World} {Q : Exit → Act → World → Prop} {ρ : Type}
variable {ops : Array Oper} {l : Env} {B Bs : List BlkD} {R : List RowD} {F Fs : List (World → Prop)} {m : Option ρ} {r : ρ}
/-- A region that draws its order: from here on, whatever comes next. -/
def SXA (P : Program) (n : Nat) (D : List Deferred) (M0 : List Nat) (w0 : World) (Q : Exit → Act → World → Prop) {ρ : Type} (ops : Array Oper) (Bs : List BlkD) (Fs : List (World → Prop)) (fuel : Nat) (done : Array Bool)
    (l : Env) (B : List BlkD) (R : List RowD) (F : List (World → Prop)) (m : Option ρ) (r : ρ) : Prop :=
  m = some r → ∀ a w, Fr n D a l → Hp M0 w0 w B R F → Stay Bs Fs w → wpAnyH P .any ops Q (Stay Bs Fs) fuel done a w
theorem stay_of {w : World} (hp : Hp M0 w0 w B R F) (hB : Pick B Bs) (hF : ∀ φ ∈ Fs, φ ∈ F) : Stay Bs Fs w := by
  have h := hp.pick (B' := Bs) (R' := []) (F' := Fs) hB .nil hF
  exact ⟨h.blk, fun φ hφ => (h.per φ hφ).here⟩
def noPanic (Q : Exit → Act → World → Prop) : Exit → Act → World → Prop
  | .panic _, _, _ => False
  | e, a, w => Q e a w
theorem sxc_draw {id : Nat} {os : List Oper} (hm : P.follows .mixedOrders = true) (Bs : List BlkD) (Fs : List (World → Prop)) (hB : Pick B Bs) (hF : ∀ φ ∈ Fs, φ ∈ F) (k : Nat) (hk : os.length = k)
    (h : SXA P n D M0 w0 (noPanic Q) os.toArray Bs Fs k (Array.replicate k false) l B R F m r) : SXC P none n D M0 w0 Q (.region id os.toArray true) l B R F m r := by
  intro hmm a w hf hp
  refine gwp_none.2 (wp_mono (wp_region_held (Q := noPanic Q) (S := Stay Bs Fs) hm ?_) fun e a w hq => ?_)
  · have hp' : Hp M0 w0 { w with drawn := w.drawn + 1 } B R F := hp.step (Keeps.of_heap rfl rfl rfl rfl)
    have := h hmm a _ hf hp' (stay_of hp' hB hF)
    simpa [hk] using this
  · cases e <;> first | exact hq | exact hq.elim
theorem sxa_take {fuel : Nat} {done done' : Array Bool} (i : Nat) {o : Oper} {d : Nat} (V : Value) (ho : ops[i]? = some o) (hd : o.dst = some d) (hdn : Nat.blt d n = true) (hw : wants ops l o = some true)
    (hs : Region.noSelect ops = true) (hfr : Region.free .any ops done i = true) (hr : (Region.ready .any ops done).contains i = true) (hdone : done.setIfInBounds i true = done')
    (hy : Yv P l Bs Fs o V) (h : SXA P n D M0 w0 (noPanic Q) ops Bs Fs fuel done' ((d, V) :: l) B R F m r) : SXA P n D M0 w0 (noPanic Q) ops Bs Fs (fuel + 1) done l B R F m r := by
  intro hm a w hf hp hS
  refine wpAnyH_take (v := V) ho hs hfr hr (fun c a w h => h) (.inl ⟨wants_sound hf hw, fun w' hS' => hy n D a w' hf hS'⟩) hS ?_
  rw [hdone, hd]
  exact h hm _ _ (hf.put hdn _) hp hS
theorem sxa_skip {fuel : Nat} {done done' : Array Bool} (i : Nat) {o : Oper} {d : Nat} (ho : ops[i]? = some o) (hd : o.dst = some d) (hdn : Nat.blt d n = true) (hw : wants ops l o = some false)
    (hs : Region.noSelect ops = true) (hfr : Region.free .any ops done i = true) (hr : (Region.ready .any ops done).contains i = true) (hdone : done.setIfInBounds i true = done')
    (h : SXA P n D M0 w0 (noPanic Q) ops Bs Fs fuel done' ((d, undef) :: l) B R F m r) : SXA P n D M0 w0 (noPanic Q) ops Bs Fs (fuel + 1) done l B R F m r := by
  intro hm a w hf hp hS
  refine wpAnyH_take (v := undef) ho hs hfr hr (fun c a w h => h) (.inr ⟨wants_sound hf hw, rfl⟩) hS ?_
  rw [hdone, hd]
  exact h hm _ _ (hf.put hdn _) hp hS
theorem sxa_if {fuel : Nat} {done : Array Bool} {c : Bool} {m1 m2 : Option ρ} (h1 : c = true → SXA P n D M0 w0 Q ops Bs Fs fuel done l B R F m1 r) (h2 : c = false → SXA P n D M0 w0 Q ops Bs Fs fuel done l B R F m2 r) :
    SXA P n D M0 w0 Q ops Bs Fs fuel done l B R F (if c then m1 else m2) r := by
  intro hm
  cases c
  · exact h2 rfl (by simpa using hm)
  · exact h1 rfl (by simpa using hm)
theorem sxa_again {fuel : Nat} {done : Array Bool} {d : Nat} {u v : Value} (hu : look l d = some u) (he : u = v) (h : SXA P n D M0 w0 Q ops Bs Fs fuel done ((d, v) :: l) B R F m r) : SXA P n D M0 w0 Q ops Bs Fs fuel done l B R F m r :=
  fun hm a w hf hp hS => h hm a w (hf.again hu he) hp hS
theorem sxa_done {fuel : Nat} {done : Array Bool} (hr : Region.ready .any ops done = []) (h : SXQ n D M0 w0 Q .normal l B R F m r) : SXA P n D M0 w0 Q ops Bs Fs fuel done l B R F m r :=
  fun hm a w hf hp _ => wpAnyH_done hr (h hm a w hf hp) _
def NoRound (P : Program) (o : Oper) : Prop := ∀ (a : Act) (w : World) (l f : Nat) (tmps : Array Value) (asg bo : Code) (w' : World), (execOp a.eval o).run P w ≠ .ok (.round l f tmps asg bo) w' ∧ ∀ row args, (execOp a.eval o).run P w ≠ .ok (.row row args) w'
theorem noRound_v {s : Sem Value} {w w' : World} {l f : Nat} {tmps : Array Value} {asg bo : Code} : (do pure (Next.value (← s)) : Sem Next).run P w ≠ .ok (.round l f tmps asg bo) w' ∧ ∀ row args, (do pure (Next.value (← s)) : Sem Next).run P w ≠ .ok (.row row args) w' := by
  cases hs : s.run P w <;> simp [hs]
theorem noRound_u {s : Sem Unit} {w w' : World} {l f : Nat} {tmps : Array Value} {asg bo : Code} : (do s; pure Next.skip : Sem Next).run P w ≠ .ok (.round l f tmps asg bo) w' ∧ ∀ row args, (do s; pure Next.skip : Sem Next).run P w ≠ .ok (.row row args) w' := by
  cases hs : s.run P w <;> simp [hs]
variable {t : TypeId} {pos : String} {af : Array Edge} {gd : Option (Nat × Bool)} {d : Option Tmp}
theorem nr_box {e : TypeId} {x : Operand} : NoRound P ⟨d, .box e x, t, pos, af, gd⟩ := fun _ _ _ _ _ _ _ _ => noRound_v
theorem nr_alloc {e : TypeId} : NoRound P ⟨d, .alloc e, t, pos, af, gd⟩ := fun _ _ _ _ _ _ _ _ => noRound_v
theorem nr_build {e : TypeId} {x : Array (Nat × Operand)} : NoRound P ⟨d, .build e x, t, pos, af, gd⟩ := fun _ _ _ _ _ _ _ _ => noRound_v
theorem nr_buildSlice {e : TypeId} {k : Nat} {x : Array (Nat × Operand)} : NoRound P ⟨d, .buildSlice e k x, t, pos, af, gd⟩ := fun _ _ _ _ _ _ _ _ => noRound_v
theorem nr_store {e : TypeId} {x y : Operand} : NoRound P ⟨d, .store e x y, t, pos, af, gd⟩ := fun _ _ _ _ _ _ _ _ => noRound_u
theorem nr_load {e : TypeId} {x : Operand} : NoRound P ⟨d, .load e x, t, pos, af, gd⟩ := fun _ _ _ _ _ _ _ _ => noRound_v
theorem nr_slice {e : TypeId} {x : Operand} {lo hi mx : Option Operand} : NoRound P ⟨d, .slice e x lo hi mx, t, pos, af, gd⟩ := fun _ _ _ _ _ _ _ _ => noRound_v
theorem nr_make {e : TypeId} {x y : Operand} : NoRound P ⟨d, .makeSlice e x y, t, pos, af, gd⟩ := fun _ _ _ _ _ _ _ _ => noRound_v
theorem nr_indexAddr {e : TypeId} {x y : Operand} : NoRound P ⟨d, .indexAddr e x y, t, pos, af, gd⟩ := fun _ _ _ _ _ _ _ _ => noRound_v
theorem nr_append {xs : Array Operand} {ts : Array TypeId} : NoRound P ⟨d, .call ⟨.builtin .append, xs, ts⟩, t, pos, af, gd⟩ := by
  intro a w l f tmps asg bo w'
  have : (execOp a.eval ⟨d, .call ⟨.builtin .append, xs, ts⟩, t, pos, af, gd⟩) = (do pure (Next.value (← Builtin.append_ ts t (xs.map a.eval))) : Sem Next) := rfl
  rw [this]
  exact noRound_v
theorem nr_call {f : FuncId} {xs : Array Operand} {tys : Array TypeId} (he : Enters P f) : NoRound P ⟨d, .call ⟨.value (.func f), xs, tys⟩, t, pos, af, gd⟩ := by
  intro a w l f' tmps asg bo w'
  have h1 : a.eval (.func f) = .func (.func f) #[] #[] := rfl
  have h4 := he (xs.map a.eval) w
  have h5 : (execOp a.eval ⟨d, .call ⟨.value (.func f), xs, tys⟩, t, pos, af, gd⟩).run P w = .ok (.enter f (xs.map a.eval)) w := by
    generalize a.eval = ε at h1 h4 ⊢
    simp [execOp, resolve, h1, Deferred.ofValue, invoke, h4]
  rw [h5]
  simp
/-- Just one can come up: it is carried out. -/
theorem sxa_step {fuel : Nat} {done done' : Array Bool} (i : Nat) {o : Oper} (ho : ops[i]? = some o) (hr : Region.ready .any ops done = [i]) (hdone : done.setIfInBounds i true = done') (hnr : NoRound P o)
    (h : SXO P none n D M0 w0 (Exit.then (fun a w => Stay Bs Fs w ∧ wpAnyH P .any ops Q (Stay Bs Fs) fuel done' a w) Q) ops [o] l B R F m r) : SXA P n D M0 w0 Q ops Bs Fs (fuel + 1) done l B R F m r := by
  intro hm a w hf hp hS
  refine wpAnyH_all hr (by simp) fun j hj => ?_
  simp only [List.mem_singleton] at hj
  subst hj
  have h1 := h hm a w hf hp
  rw [hdone]
  unfold gwpList wpListIn at h1
  unfold wpOp
  simp only [ho]
  split
  · rename_i hw
    rw [if_pos hw] at h1
    refine .inl ?_
    have key : ∀ x, o.uponIn (Wd none) 0 P a (wpListIn (Wd none) 0 P ops (Exit.then (fun a w => Stay Bs Fs w ∧ wpAnyH P .any ops Q (Stay Bs Fs) fuel done' a w) Q) []) (Exit.then (fun a w => Stay Bs Fs w ∧ wpAnyH P .any ops Q (Stay Bs Fs) fuel done' a w) Q) x →
        (∀ l f tmps asg bo w, x ≠ .ok (.round l f tmps asg bo) w ∧ ∀ row args, x ≠ .ok (.row row args) w) → o.upon P a (fun a w => Stay Bs Fs w ∧ wpAnyH P .any ops Q (Stay Bs Fs) fuel done' a w) Q x := by
      intro x h hnr
      cases x with
      | halt y w => cases y <;> exact h
      | ok y w =>
        cases y with
        | enter f args =>
          refine Calls.mono ((callsIn_wide (n := 0 - 1)).1 h.2) fun e w' he => ?_
          cases e <;> exact he
        | row row args => exact ((hnr 0 0 #[] .skip .skip w).2 row args rfl).elim
        | round l f tmps asg bo => exact ((hnr l f tmps asg bo w).1 rfl).elim
        | _ => exact h
    exact key _ h1.2 (fun l f tmps asg bo w' => hnr _ _ l f tmps asg bo w')
  · rename_i hw
    rw [if_neg hw] at h1
    exact h1.2
theorem sxq_any {fuel : Nat} {done : Array Bool} {K : Exit → Act → World → Prop} (hB : Pick B Bs) (hF : ∀ φ ∈ Fs, φ ∈ F) (h : SXA P n D M0 w0 Q ops Bs Fs fuel done l B R F m r) :
    SXQ n D M0 w0 (Exit.then (fun a w => Stay Bs Fs w ∧ wpAnyH P .any ops Q (Stay Bs Fs) fuel done a w) K) .normal l B R F m r :=
  fun hm a w hf hp => ⟨stay_of hp hB hF, h hm a w hf hp (stay_of hp hB hF)⟩
theorem sxq_np {e : Exit} (h : SXQ n D M0 w0 Q e l B R F m r) (he : ∀ c, e ≠ .panic c) : SXQ n D M0 w0 (noPanic Q) e l B R F m r := by
  intro hm a w hf hp
  have := h hm a w hf hp
  cases e <;> first | exact this | exact (he _ rfl).elim
theorem sxc_chk {x : Code} {c : Bool} (h : c = true → SXC P ro n D M0 w0 Q x l B R F m r) : SXC P ro n D M0 w0 Q x l B R F (chk c m) r := by
  intro hm
  cases c
  · simp [chk] at hm
  · exact h rfl (by simpa [chk] using hm)
theorem sxc_split {x : Code} {c : Bool} {m1 m2 : Option ρ} (h1 : c = true → SXC P ro n D M0 w0 Q x l B R F m1 r) (h2 : c = false → SXC P ro n D M0 w0 Q x l B R F m2 r) : SXC P ro n D M0 w0 Q x l B R F (if c then m1 else m2) r := by
  intro hm
  cases c
  · exact h2 rfl (by simpa using hm)
  · exact h1 rfl (by simpa using hm)
theorem idx_get {α : Type} {xs : List α} {i : Int} {y : α} (h : idx xs i = some y) : 0 ≤ i ∧ i.toNat < xs.length ∧ xs[i.toNat]? = some y := by
  unfold idx at h
  split at h
  · rename_i h0
    exact ⟨h0, (List.getElem?_eq_some_iff.1 h).1, h⟩
  · simp at h
theorem idx_lt {α : Type} {xs : List α} {i : Int} {y : α} (h : idx xs i = some y) : i < (xs.length : Int) := by
  have := idx_get h; omega
/-- An element's cells, ahead of the region that reads it. -/
theorem sxc_idxF {x : Code} {α : Type} {enc : α → List Value} {size : Nat} {xs : List α} {k : α → Option ρ} {i : Int} {ao : Option Addr} {c j : Nat} (henc : EncOk enc size) (hs0 : size ≠ 0)
    (hF : F[j]? = some (Sl enc size (.slice ao xs.length c) xs))
    (h : ∀ y, idx xs i = some y → ∀ b o, ao = some ⟨b, o, none⟩ → SXC P ro n D M0 w0 Q x l B R (CellsAt b (o + i.toNat * size) (enc y) :: F) (k y) r) :
    SXC P ro n D M0 w0 Q x l B R F ((idx xs i).bind k) r := by
  intro hm a w hf hp
  cases hq : idx xs i with
  | none => rw [hq] at hm; simp at hm
  | some y =>
    rw [hq] at hm
    have hm' : k y = some r := by simpa using hm
    obtain ⟨h0, hlt, hy⟩ := idx_get hq
    have hnec := hp.per _ (List.mem_of_getElem? hF)
    obtain ⟨⟨ao', cap, hv, _, _, hsp, hc⟩, hlen⟩ := (hnec.here : Cells _ xs.length size (xs.flatMap enc) w)
    simp only [Value.slice.injEq] at hv
    obtain ⟨rfl, -, rfl⟩ := hv
    have h00 : 0 < (enc y).length := by rw [henc.len]; omega
    obtain ⟨ad, rfl, had⟩ := hc (i.toNat * size + 0) _ (flatMap_get henc xs i.toNat y 0 _ hy (List.getElem?_eq_getElem h00))
    have hsp' := hsp _ rfl
    obtain ⟨b, o, sp⟩ := ad
    simp only at hsp'
    subst hsp'
    refine h y hq b o rfl hm' a w hf (hp.addFact ?_)
    intro w' hk' jj u hj
    obtain ⟨⟨ao', cap', hv', _, _, hsp', hc'⟩, _⟩ := (hnec w' hk' : Cells _ xs.length size (xs.flatMap enc) w')
    simp only [Value.slice.injEq] at hv'
    obtain ⟨rfl, -, -⟩ := hv'
    obtain ⟨ad', h3, h4⟩ := hc' (i.toNat * size + jj) u (flatMap_get henc xs i.toNat y jj u hy hj)
    simp only [Option.some.injEq] at h3
    subst h3
    rw [← h4]
    simp only [Nat.add_assoc]
/-- The same of an owned row: what is read is said of the row itself. -/
theorem sxc_idxR {x : Code} {α : Type} {xs : List α} {k : α → Option ρ} {i : Int}
    (h : ∀ y, idx xs i = some y → SXC P ro n D M0 w0 Q x l B R F (k y) r) : SXC P ro n D M0 w0 Q x l B R F ((idx xs i).bind k) r := by
  intro hm
  cases hq : idx xs i with
  | none => rw [hq] at hm; simp at hm
  | some y => rw [hq] at hm; exact h y hq (by simpa using hm)
end
end SX

namespace SX
open Go

/-- The contract of a function that is handed blocks and rows to write. -/
def PureM (P : Program) (f : FuncId) (vs : List Value) (B0 : List BlkD) (R0 : List RowD) (Φ : List (World → Prop)) (γ : Type) (V : γ → Value) (B1 : γ → List BlkD) (R1 : γ → List RowD) : Prop :=
  ∀ w, Hp (muts B0 R0) w w B0 R0 Φ → Calls P f vs.toArray w fun e w' => ∃ g : γ, e = .returned (V g) ∧ Hp (muts B0 R0) w w' (B1 g) (R1 g) []

theorem muts_app {B1 B2 : List BlkD} {R1 R2 : List RowD} : (muts (B1 ++ B2) (R1 ++ R2)).Perm (muts B1 R1 ++ muts B2 R2) := by
  unfold muts
  simp only [List.map_append, List.filterMap_append]
  -- (b1 ++ b2) ++ (r1 ++ r2) ~ (b1 ++ r1) ++ (b2 ++ r2)
  rw [List.append_assoc, List.append_assoc]
  refine List.Perm.append_left _ ?_
  rw [← List.append_assoc, ← List.append_assoc]
  exact List.Perm.append_right _ List.perm_append_comm
inductive Takes {α : Type} : List α → List α → List α → Prop
  | nil {R : List α} : Takes R [] R
  | cons {R R' S : List α} {r : α} (i : Nat) (h : R[i]? = some r) (hp : Takes (R.eraseIdx i) R' S) : Takes R (r :: R') S
theorem Takes.perm {α : Type} {R R' S : List α} (h : Takes R R' S) : R.Perm (R' ++ S) := by
  induction h with
  | nil => exact List.Perm.refl _
  | cons i h _ ih =>
    obtain ⟨R1, R2, rfl, he⟩ := split_at h
    rw [he] at ih
    exact List.perm_middle.trans (List.Perm.cons _ ih)
theorem Hp.perm {M0 : List Nat} {w0 w : World} {B B' : List BlkD} {R R' : List RowD} {F : List (World → Prop)} (h : Hp M0 w0 w B R F) (hB : B.Perm B') (hR : R.Perm R') : Hp M0 w0 w B' R' F := by
  have hp : (muts B R).Perm (muts B' R') := (hB.map _).append (hR.filterMap _)
  exact { keep := h.keep, blk := fun b hb => h.blk b (hB.mem_iff.2 hb), row := fun r hr => h.row r (hR.mem_iff.2 hr), nodup := hp.nodup_iff.1 h.nodup,
          fresh := fun g hg => h.fresh g (hp.mem_iff.2 hg), per := fun φ hφ => (h.per φ hφ).less fun k hk => hp.mem_iff.2 hk }
theorem Hp.callM {M0 : List Nat} {w0 w w' : World} {B0 BS B1 : List BlkD} {R0 RS R1 : List RowD} {F : List (World → Prop)} (h : Hp M0 w0 w (B0 ++ BS) (R0 ++ RS) F) (hr : Hp (muts B0 R0) w w' B1 R1 []) : Hp M0 w0 w' (B1 ++ BS) (R1 ++ RS) F := by
  have hm := muts_app (B1 := B0) (B2 := BS) (R1 := R0) (R2 := RS)
  have hm1 := muts_app (B1 := B1) (B2 := BS) (R1 := R1) (R2 := RS)
  have hnd := hm.nodup_iff.1 h.nodup
  have hdis : ∀ k ∈ muts BS RS, k ∉ muts B0 R0 := fun k hk hk' => (List.nodup_append.1 hnd).2.2 k hk' k hk rfl
  refine h.turn (muts B0 R0) hr.keep (fun k hk => hm.mem_iff.2 (List.mem_append.2 (.inl hk))) (fun b hb => ?_) (fun r0 h0 => ?_) ?_ ?_
  · rcases List.mem_append.1 hb with hb | hb
    · exact hr.blk b hb
    · exact blk_kept (h.blk b (List.mem_append.2 (.inr hb))) hr.keep (hdis _ (List.mem_append.2 (.inl (List.mem_map.2 ⟨b, hb, rfl⟩))))
  · rcases List.mem_append.1 h0 with h0 | h0
    · exact hr.row r0 h0
    · exact row_kept (h.row r0 (List.mem_append.2 (.inr h0))) hr.keep fun g hg => hdis _ (List.mem_append.2 (.inr (List.mem_filterMap.2 ⟨r0, h0, hg⟩)))
  · refine hm1.nodup_iff.2 (List.nodup_append.2 ⟨hr.nodup, (List.nodup_append.1 hnd).2.1, fun a ha b hb hab => ?_⟩)
    subst hab
    rcases hr.fresh a ha with h1 | h1
    · exact hdis a hb h1
    · have := h.lt a (hm.mem_iff.2 (List.mem_append.2 (.inr hb))); omega
  · intro g hg
    rcases List.mem_append.1 (hm1.mem_iff.1 hg) with h2 | h2
    · rcases hr.fresh g h2 with h3 | h3
      · exact .inl (hm.mem_iff.2 (List.mem_append.2 (.inl h3)))
      · exact .inr h3
    · exact .inl (hm.mem_iff.2 (List.mem_append.2 (.inr h2)))
/-- The arguments that are only read: they lie apart from what is handed over to be written. -/
inductive ArgsM (R : List RowD) (F : List (World → Prop)) : List (World → Prop) → Prop
  | nil : ArgsM R F []
  | consF {φ : World → Prop} {Φ : List (World → Prop)} (j : Nat) (h : F[j]? = some φ) (ha : ArgsM R F Φ) : ArgsM R F (φ :: Φ)
  | consR {Φ : List (World → Prop)} (j : Nat) (rd : RowD) (h : R[j]? = some rd) (ha : ArgsM R F Φ) : ArgsM R F (Cells rd.v rd.n rd.size rd.cs :: Φ)
theorem ArgsM.ok {M0 : List Nat} {w0 w : World} {B0 BS : List BlkD} {R0 RS : List RowD} {F Φ : List (World → Prop)} (ha : ArgsM RS F Φ) (hp : Hp M0 w0 w (B0 ++ BS) (R0 ++ RS) F) : ∀ φ ∈ Φ, Nec w (muts B0 R0) φ := by
  have hm := muts_app (B1 := B0) (B2 := BS) (R1 := R0) (R2 := RS)
  have hnd := hm.nodup_iff.1 hp.nodup
  induction ha with
  | nil => intro φ h; simp at h
  | consF j h _ ih =>
    intro φ hφ
    rcases List.mem_cons.1 hφ with rfl | hφ
    · exact (hp.per _ (List.mem_of_getElem? h)).less fun k hk => hm.mem_iff.2 (List.mem_append.2 (.inl hk))
    · exact ih φ hφ
  | consR j rd h _ ih =>
    intro φ hφ
    rcases List.mem_cons.1 hφ with rfl | hφ
    · intro w' hk
      have hrd := List.mem_of_getElem? h
      refine Cells.keeps (ownsRow_cells (hp.row _ (List.mem_append.2 (.inr hrd)))) hk fun g hg hgm => ?_
      exact (List.nodup_append.1 hnd).2.2 g hgm g (List.mem_append.2 (.inr (List.mem_filterMap.2 ⟨rd, hrd, hg⟩))) rfl
    · exact ih φ hφ
theorem Hp.startM {M0 : List Nat} {w0 w : World} {B0 BS : List BlkD} {R0 RS : List RowD} {F Φ : List (World → Prop)} (hp : Hp M0 w0 w (B0 ++ BS) (R0 ++ RS) F) (h : ∀ φ ∈ Φ, Nec w (muts B0 R0) φ) : Hp (muts B0 R0) w w B0 R0 Φ where
  keep := Keeps.refl _ _
  blk := fun b hb => hp.blk b (List.mem_append.2 (.inl hb))
  row := fun r hr => hp.row r (List.mem_append.2 (.inl hr))
  nodup := (List.nodup_append.1 (muts_app.nodup_iff.1 hp.nodup)).1
  fresh := fun _ hg => .inl hg
  per := h

section
variable {P : Program} {ro : Option Nat} {n : Nat} {D : List Deferred} {M0 : List Nat} {w0 : World} {Q : Exit → Act → World → Prop} {ρ : Type}
variable {ops : Array Oper} {rest : List Oper} {l : Env} {B : List BlkD} {R : List RowD} {F : List (World → Prop)} {m : Option ρ} {r : ρ}
variable {t : TypeId} {pos : String} {af : Array Edge} {gd : Option (Nat × Bool)}
theorem sxo_callM {α γ : Type} {mg : Option α} {k : α → Option ρ} {f : FuncId} {xs : Array Operand} {tys : Array TypeId} {vs : List Value} {Φ : List (World → Prop)} {d : Nat} {V : α → γ → Value} {B0 BS : List BlkD} {R0 RS : List RowD} {B1 : α → γ → List BlkD} {R1 : α → γ → List RowD}
    (he : Enters P f) (hw : wants ops l ⟨some d, .call ⟨.value (.func f), xs, tys⟩, t, pos, af, gd⟩ = some true) (hx : evArgs l xs.toList = some vs) (hd : Nat.blt d n = true)
    (hC : ∀ y, mg = some y → PureM P f vs B0 R0 Φ γ (V y) (B1 y) (R1 y)) (hB : Takes B B0 BS) (hR : Takes R R0 RS) (ha : ArgsM RS F Φ)
    (h : ∀ y, mg = some y → ∀ g, SXO P ro n D M0 w0 Q ops rest ((d, V y g) :: l) (B1 y g ++ BS) (R1 y g ++ RS) F (k y) r) :
    SXO P ro n D M0 w0 Q ops (⟨some d, .call ⟨.value (.func f), xs, tys⟩, t, pos, af, gd⟩ :: rest) l B R F (mg.bind k) r := by
  intro hm a w hf hp
  cases hq : mg with
  | none => rw [hq] at hm; simp at hm
  | some y =>
    rw [hq] at hm
    have hm' : k y = some r := by simpa using hm
    have hp' := hp.perm hB.perm hR.perm
    refine gwpList_call (wants_sound hf hw) (wants_calm hw) (run_call hf he hx) ((hC y hq w (hp'.startM (ha.ok hp'))).mono fun e w' ⟨g, h1, h2⟩ => ⟨V y g, h1, ?_⟩)
    exact h y hq g hm' _ _ (hf.put hd _) (hp'.callM h2)
theorem pureM_of {f : FuncId} {fn : Func} {c : Code} {vs : List Value} {B0 : List BlkD} {R0 : List RowD} {Φ : List (World → Prop)} {γ : Type} {V : γ → Value} {B1 : γ → List BlkD} {R1 : γ → List RowD} {N : Nat} (hfn : P.funcs[f]? = some fn) (hb : fn.body = some c) (hn : fn.ntmps = N)
    (hvl : Nat.ble vs.length N = true) (hm : m = some r)
    (h : ∀ w, SXC P none N [] (muts B0 R0) w (bodyPost P fn fun e w' => ∃ g : γ, e = .returned (V g) ∧ Hp (muts B0 R0) w w' (B1 g) (R1 g) []) c (vs.zipIdx.map fun p => (p.2, p.1)) B0 R0 Φ m r) : PureM P f vs B0 R0 Φ γ V B1 R1 := by
  intro w hp
  refine calls_of_wp hfn hb (gwp_none.1 (h w hm _ w ?_ hp))
  have hvl' : vs.length ≤ N := by simpa using hvl
  refine ⟨rfl, by simp [hn]; omega, fun i v hv => ?_⟩
  have key : ∀ (vs : List Value) (k i : Nat) (v : Value), look ((vs.zipIdx k).map fun p => (p.2, p.1)) i = some v → k ≤ i ∧ vs[i - k]? = some v := by
    intro vs
    induction vs with
    | nil => intro k i v hv; simp [look] at hv
    | cons u vs ih =>
      intro k i v hv
      simp only [List.zipIdx_cons, List.map_cons] at hv
      rw [look_cons] at hv
      split at hv
      · rename_i he; subst he; simpa using hv
      · obtain ⟨h1, h2⟩ := ih (k + 1) i v hv
        refine ⟨by omega, ?_⟩
        rw [show i - k = (i - (k + 1)) + 1 from by omega]
        simpa using h2
  obtain ⟨_, h2⟩ := key vs 0 i v hv
  have hlt := (List.getElem?_eq_some_iff.1 h2).1
  rw [Array.getElem?_append_left (by simpa using hlt)]
  simpa using h2
theorem sxq_doneM {fn : Func} {γ : Type} {V : γ → Value} {B1 : γ → List BlkD} {R1 : γ → List RowD} {w : World} {x : ρ} {e : Exit} (g : γ) {v : Value} (he : e = .ret ∨ e = .normal) (hres : ∀ a w', Fr n [] a l → Hp M0 w w' B R F → (results fn a.tmps).run P w' = .ok v w')
    (hv : x = r → v = V g) (hB : x = r → Pick B (B1 g)) (hR : x = r → Pick R (R1 g)) :
    SXQ n [] M0 w (bodyPost P fn fun e w' => ∃ g : γ, e = .returned (V g) ∧ Hp M0 w w' (B1 g) (R1 g) []) e l B R F (some x) r := by
  intro hm a w' hf hp
  have hx : x = r := by simpa using hm
  have : ∃ v, (results fn a.tmps).run P w' = .ok v w' ∧ ∃ g : γ, Ending.returned v = .returned (V g) ∧ Hp M0 w w' (B1 g) (R1 g) [] :=
    ⟨v, hres a w' hf hp, g, by rw [hv hx], hp.pick (hB hx) (hR hx) (by simp)⟩
  rcases he with rfl | rfl
  · exact ⟨hf.defers, this⟩
  · exact ⟨hf.defers, this⟩

/-! ### Results, in slots or in variables -/
inductive ResOk (P : Program) (l : Env) (B : List BlkD) : List ResultVar → List Value → Prop
  | nil : ResOk P l B [] []
  | tmp {t : Tmp} {v : Value} {rs : List ResultVar} {vs : List Value} (h : look l t = some v) (hr : ResOk P l B rs vs) : ResOk P l B (.tmp t :: rs) (v :: vs)
  | cell {t : Tmp} {ty e : TypeId} {agg : Bool} {z : Value} {size bytes i g o : Nat} {cs : List Value} {V : Value} {rs : List ResultVar} {vs : List Value} (hx : look l t = some (.pointer (some ⟨g, o, none⟩))) (hT : TyF P ty agg z size bytes)
      (hB : B[i]? = some ⟨g, e, cs⟩) (hl : ((cs.drop o).take size).length = size) (hs : agg = false → size = 1) (hV : (if agg then .agg ((cs.drop o).take size).toArray else ((cs.drop o).take size).getD 0 undef) = V)
      (hr : ResOk P l B rs vs) : ResOk P l B (.cell t ty :: rs) (V :: vs)
theorem resOk_run {rs : List ResultVar} {vs : List Value} (h : ResOk P l B rs vs) {a : Act} {w : World} (hf : Fr n D a l) (hb : ∀ b ∈ B, b.is w) :
    (rs.mapM (fun | .tmp t => pure (a.tmps.getD t undef) | .cell x t => do loadVar t (← asAddr (a.tmps.getD x undef))) : Sem (List Value)).run P w = .ok vs w := by
  induction h with
  | nil => rfl
  | @tmp t v rs vs h _ ih =>
    have e1 := hf.val _ _ h
    simp only [List.mapM_cons]
    generalize (rs.mapM (fun | .tmp t => pure (a.tmps.getD t undef) | .cell x t => do loadVar t (← asAddr (a.tmps.getD x undef))) : Sem (List Value)) = q at ih
    simp [Array.getD_eq_getD_getElem?, e1, ih]
  | @cell t ty e agg z size bytes i g o cs V rs vs hx hT hB hl hs hV _ ih =>
    have e1 := hf.val _ _ hx
    have hb1 := hb _ (List.mem_of_getElem? hB)
    have hc : CellsAt g o ((cs.drop o).take size) w := by
      intro j u hj
      have hlt : j < size := by have := (List.getElem?_eq_some_iff.1 hj).1; simp at this; omega
      rw [List.getElem?_take_of_lt hlt, List.getElem?_drop] at hj
      have hb' : w.heap[g]? = some (.cells cs.toArray e (0, 0)) := hb1
      simp [World.cell?, hb', hj]
    have hr := run_loadVar hT hc hl hV.symm hs
    simp only [List.mapM_cons]
    generalize (rs.mapM (fun | .tmp t => pure (a.tmps.getD t undef) | .cell x t => do loadVar t (← asAddr (a.tmps.getD x undef))) : Sem (List Value)) = q at ih
    simp [Array.getD_eq_getD_getElem?, e1, asAddr, hr, ih]
theorem resL {fn : Func} {rs : List ResultVar} {vs : List Value} (hfn : fn.results = rs.toArray) (h : ResOk P l B rs vs) {w : World} {v : Value} (hv : (match vs with | [v] => v | _ => .tuple vs.toArray) = v) : ∀ a w', Fr n [] a l → Hp M0 w w' B R F → (results fn a.tmps).run P w' = .ok v w' := by
  intro a w' hf hp
  have hr := resOk_run h hf hp.blk
  have key : results fn a.tmps = (do
      let vs ← (List.toArray <$> (rs.mapM (fun | .tmp t => pure (a.tmps.getD t undef) | .cell x t => do loadVar t (← asAddr (a.tmps.getD x undef))) : Sem (List Value)) : Sem (Array Value))
      pure (if h : vs.size = 1 then vs[0] else .tuple vs)) := by
    unfold results
    rw [hfn, Array.mapM_eq_mapM_toList]
    rfl
  rw [key]
  subst hv
  generalize (rs.mapM (fun | .tmp t => pure (a.tmps.getD t undef) | .cell x t => do loadVar t (← asAddr (a.tmps.getD x undef))) : Sem (List Value)) = q at hr
  simp only [map_eq_pure_bind, bind_assoc, pure_bind]
  simp [hr]
  match vs with
  | [] => rfl
  | [v] => rfl
  | v :: u :: r => simp
end
end SX

namespace SX
open Go

section heap
variable {M0 : List Nat} {w0 w : World} {B : List BlkD} {R : List RowD} {F : List (World → Prop)}
theorem Keeps.putObj {w : World} (g : Nat) (o : Obj) : Keeps [g] w (w.putObj g o) :=
  ⟨rfl, rfl, rfl, by simp [World.putObj], fun k _ hn => World.putObj_heap_other (by intro e; exact hn (by simp [e]))⟩
theorem Hp.setObj {i : Nat} {b : BlkD} (h : Hp M0 w0 w B R F) (hi : B[i]? = some b) (o : Obj) : Hp M0 w0 (w.putObj b.g o) (B.set i (blkO b.g o)) R F := by
  have hm : b ∈ B := List.mem_of_getElem? hi
  have hgm : b.g ∈ muts B R := List.mem_append.2 (.inl (List.mem_map.2 ⟨_, hm, rfl⟩))
  have hlt := h.lt _ hgm
  have hk := Keeps.putObj (w := w) b.g o
  have hmu := muts_set_blk (R := R) (b' := blkO b.g o) hi rfl
  refine h.turn [b.g] hk (by simpa using hgm) (fun b' hb => ?_) (fun r hr => row_kept (h.row r hr) hk fun g' hg' => ?_) (hmu ▸ h.nodup) (fun k hk => .inl (hmu ▸ hk))
  · obtain ⟨j, hj⟩ := List.getElem?_of_mem hb
    rw [List.getElem?_set] at hj
    split at hj
    · split at hj
      · simp at hj; subst hj
        exact World.putObj_heap_same hlt
      · simp at hj
    · rename_i hij
      refine blk_kept (h.blk b' (List.mem_of_getElem? hj)) hk (fun hg => ?_)
      simp only [List.mem_singleton] at hg
      exact hij (nodup_get h.nodup hi hj hg.symm)
  · intro hgg
    simp only [List.mem_singleton] at hgg
    have hnd := (List.nodup_append.1 h.nodup).2.2
    exact hnd b.g (List.mem_map.2 ⟨_, hm, rfl⟩) g' (List.mem_filterMap.2 ⟨r, hr, hg'⟩) hgg.symm
theorem Hp.allocO (h : Hp M0 w0 w B R F) (o : Obj) : Hp M0 w0 (w.alloc o) (blkO w.heap.size o :: B) R F := by
  have hk := Keeps.alloc [] w o
  refine h.turn [] hk (by simp) (fun b hb => ?_) (fun r hr => row_kept (h.row r hr) hk (by simp)) ?_ ?_
  · rcases List.mem_cons.1 hb with rfl | hb
    · exact heap_alloc_new w _
    · exact blk_kept (h.blk b hb) hk (by simp)
  · simp only [muts, List.map_cons, List.cons_append, List.nodup_cons]
    exact ⟨fun hm => by have := h.lt _ hm; omega, h.nodup⟩
  · intro g hg
    simp only [muts, List.map_cons, List.cons_append, List.mem_cons] at hg
    rcases hg with rfl | hg
    · exact .inr (Nat.le_refl _)
    · exact .inl hg
theorem Hp.facts {F' : List (World → Prop)} (h : Hp M0 w0 w B R F) (hF : ∀ φ ∈ F', Nec w (muts B R) φ) : Hp M0 w0 w B R F' :=
  { keep := h.keep, blk := h.blk, row := h.row, nodup := h.nodup, fresh := h.fresh, per := hF }
end heap

/-! ### The mark of a loop over a function -/
def mark (k : Nat) : Deferred := { target := .collected k, args := #[] }
abbrev dblk (k : Nat) : BlkD := blkO k (.deferred (some []))
section
variable {P : Program} {ro : Option Nat} {n : Nat} {D : List Deferred} {M0 : List Nat} {w0 : World} {Q : Exit → Act → World → Prop} {ρ : Type}
variable {ops : Array Oper} {rest : List Oper} {l : Env} {B : List BlkD} {R : List RowD} {F : List (World → Prop)} {m : Option ρ} {r : ρ}
variable {t : TypeId} {pos : String} {af : Array Edge} {gd : Option (Nat × Bool)}

theorem leaves_marks {fn : Func} {tmps : Array Value} {Rp : Ending → World → Prop} {v : Value} : ∀ (Ds : List Nat) (w : World) (B : List BlkD), Hp M0 w0 w (Ds.map dblk ++ B) R F →
    (∀ w', Hp M0 w0 w' B R F → (results fn tmps).run P w' = .ok v w' ∧ Rp (.returned v) w') → LeavesInM (Wd none) 0 P fn tmps Rp (Ds.map mark) .returning w := by
  intro Ds
  induction Ds with
  | nil => intro w B hp h; obtain ⟨h1, h2⟩ := h w hp; exact ⟨v, h1, h2⟩
  | cons k Ds ih =>
    intro w B hp h
    have hb : w.heap[k]? = some (.deferred (some [])) := hp.blk (dblk k) (by simp)
    refine ⟨by simp, .inl ⟨k, _, rfl, run_takeDeferred hb, ih _ B ?_ h⟩⟩
    exact (hp.setObj (i := 0) (b := dblk k) rfl (.deferred none)).weaken (by simp) (List.Sublist.refl _) (fun φ h => h)
/-- The end of a function in whose body a loop over a function may stand. -/
theorem sxq_doneX {fn : Func} {γ : Type} {V : γ → Value} {B1 : γ → List BlkD} {R1 : γ → List RowD} {w : World} {x : ρ} {e : Exit} (Ds : List Nat) {B' : List BlkD} (g : γ) {v : Value} (he : e = .ret ∨ e = .normal) (hD : D = Ds.map mark) (hT : Takes B (Ds.map dblk) B')
    (hres : ∀ a w', Fr n [] a l → Hp M0 w w' B' R F → (results fn a.tmps).run P w' = .ok v w')
    (hv : x = r → v = V g) (hB : x = r → Pick B' (B1 g)) (hR : x = r → Pick R (R1 g)) :
    SXQ n D M0 w (bodyPostM (Wd none) 0 P fn fun e w' => ∃ g : γ, e = .returned (V g) ∧ Hp M0 w w' (B1 g) (R1 g) []) e l B R F (some x) r := by
  intro hm a w' hf hp
  have hx : x = r := by simpa using hm
  have : LeavesInM (Wd none) 0 P fn a.tmps (fun e w' => ∃ g : γ, e = .returned (V g) ∧ Hp M0 w w' (B1 g) (R1 g) []) a.defers .returning w' := by
    rw [hf.defers, hD]
    refine leaves_marks (v := v) (R := R) (F := F) Ds w' B' (hp.perm hT.perm (List.Perm.refl _)) fun w2 hp2 => ⟨?_, g, by rw [hv hx], hp2.pick (hB hx) (hR hx) (by simp)⟩
    exact hres { tmps := a.tmps, defers := [] } w2 ⟨rfl, hf.size, hf.val⟩ hp2
  rcases he with rfl | rfl
  · exact this
  · exact this
theorem fr_args {fn : Func} {vs : List Value} {N : Nat} (hn : fn.ntmps = N) (hvl : Nat.ble vs.length N = true) : Fr N [] { tmps := vs.toArray ++ Array.replicate (fn.ntmps - vs.toArray.size) undef, defers := [] } (vs.zipIdx.map fun p => (p.2, p.1)) := by
  have hvl' : vs.length ≤ N := by simpa using hvl
  refine ⟨rfl, by simp [hn]; omega, fun i v hv => ?_⟩
  have key : ∀ (vs : List Value) (k i : Nat) (v : Value), look ((vs.zipIdx k).map fun p => (p.2, p.1)) i = some v → k ≤ i ∧ vs[i - k]? = some v := by
    intro vs
    induction vs with
    | nil => intro k i v hv; simp [look] at hv
    | cons u vs ih =>
      intro k i v hv
      simp only [List.zipIdx_cons, List.map_cons] at hv
      rw [look_cons] at hv
      split at hv
      · rename_i he; subst he; simpa using hv
      · obtain ⟨h1, h2⟩ := ih (k + 1) i v hv
        refine ⟨by omega, ?_⟩
        rw [show i - k = (i - (k + 1)) + 1 from by omega]
        simpa using h2
  obtain ⟨_, h2⟩ := key vs 0 i v hv
  have hlt := (List.getElem?_eq_some_iff.1 h2).1
  rw [Array.getElem?_append_left (by simpa using hlt)]
  simpa using h2
theorem pureX_of {f : FuncId} {fn : Func} {c : Code} {vs : List Value} {B0 : List BlkD} {R0 : List RowD} {Φ : List (World → Prop)} {γ : Type} {V : γ → Value} {B1 : γ → List BlkD} {R1 : γ → List RowD} {N : Nat} (hfn : P.funcs[f]? = some fn) (hb : fn.body = some c) (hn : fn.ntmps = N)
    (hvl : Nat.ble vs.length N = true) (hm : m = some r)
    (h : ∀ w, SXC P none N [] (muts B0 R0) w (bodyPostM (Wd none) 0 P fn fun e w' => ∃ g : γ, e = .returned (V g) ∧ Hp (muts B0 R0) w w' (B1 g) (R1 g) []) c (vs.zipIdx.map fun p => (p.2, p.1)) B0 R0 Φ m r) : PureM P f vs B0 R0 Φ γ V B1 R1 := by
  intro w hp
  refine (callsIn_wide (n := 0)).1 (callsIn_of_wp_marks hfn hb trivial (h w hm _ w ?_ hp))
  exact fr_args hn hvl

/-! ### A call of yield -/
structure Rounds (σ τ : Type) where
  γ : Type
  δ : Type
  IB : σ → γ → List BlkD
  IR : σ → γ → List RowD
  XB : τ → δ → List BlkD
  XR : τ → δ → List RowD
  F : World → Prop
abbrev Rounds.G {σ τ : Type} (J : Rounds σ τ) : σ ⊕ τ → Type
  | .inl _ => J.γ
  | .inr _ => J.δ
abbrev Rounds.bs {σ τ : Type} (J : Rounds σ τ) : (z : σ ⊕ τ) → J.G z → List BlkD
  | .inl s => fun g => J.IB s g
  | .inr t => fun g => J.XB t g
abbrev Rounds.rs {σ τ : Type} (J : Rounds σ τ) : (z : σ ⊕ τ) → J.G z → List RowD
  | .inl s => fun g => J.IR s g
  | .inr t => fun g => J.XR t g
def YieldC {σ τ α : Type} (P : Program) (L : Nat) (encs : α → List Value) (J : Rounds σ τ) (y : σ → α → Option (σ ⊕ τ)) : Prop :=
  ∀ s x r, y s x = some r → ∀ (g : J.γ) w, Hp (muts (J.IB s g) (J.IR s g)) w w (J.IB s g) (J.IR s g) [J.F] →
    YieldAt (Wd none) 0 P L (encs x).toArray w fun e w' => e = .returned (.bool r.isLeft) ∧ ∃ g', Hp (muts (J.IB s g) (J.IR s g)) w w' (J.bs r g') (J.rs r g') []
theorem pick_self {α : Type} : ∀ {R : List α}, Pick R R
  | [] => .nil
  | _ :: _ => .cons 0 rfl pick_self
theorem pick_rest {α : Type} : ∀ {R S : List α} (i : Nat), R.drop i = S → Pick R S
  | _, _, 0, rfl => pick_self
  | [], _, i + 1, h => by simp at h; subst h; exact .nil
  | a :: R, S, i + 1, h => by
    have h1 : Pick R S := pick_rest i (by simpa using h)
    have key : ∀ {R S : List α} {a : α}, Pick R S → Pick (a :: R) S := by
      intro R S a h
      induction h generalizing a with
      | nil => exact .nil
      | cons i h _ ih => exact .cons (i + 1) (by simpa using h) (by simpa using ih)
    exact key h1
theorem sxq_doneI {σ τ : Type} {J : Rounds σ τ} {fn : Func} {w : World} {B0 : List BlkD} {x z : σ ⊕ τ} {e : Exit} {v : Value} (g : J.G x) (he : e = .ret ∨ e = .normal) (hres : ∀ a w', Fr n [] a l → Hp M0 w w' B R F → (results fn a.tmps).run P w' = .ok v w')
    (hB : Pick B (B0 ++ J.bs x g)) (hR : Pick R (J.rs x g)) :
    SXQ n [] M0 w (bodyPost P fn fun e w' => ∃ g : J.G z, e = .returned v ∧ Hp M0 w w' (B0 ++ J.bs z g) (J.rs z g) []) e l B R F (some x) z := by
  intro hm a w' hf hp
  obtain rfl : x = z := by simpa using hm
  have : ∃ v', (results fn a.tmps).run P w' = .ok v' w' ∧ ∃ g : J.G x, Ending.returned v' = .returned v ∧ Hp M0 w w' (B0 ++ J.bs x g) (J.rs x g) [] :=
    ⟨v, hres a w' hf hp, g, rfl, hp.pick hB hR (by simp)⟩
  rcases he with rfl | rfl
  · exact ⟨hf.defers, this⟩
  · exact ⟨hf.defers, this⟩
theorem sxo_yield {σ τ α : Type} {encs : α → List Value} {J : Rounds σ τ} {y : σ → α → Option (σ ⊕ τ)} {L : Nat} (hY : YieldC P L encs J y) (s : σ) (x : α) (g : J.γ) {x0 : Operand} {xs : Array Operand} {tys : Array TypeId} {d j : Nat} {B1 : List BlkD} {R1 : List RowD} {k1 : σ → Option ρ} {k2 : τ → Option ρ}
    (hw : wants ops l ⟨some d, .call ⟨.value x0, xs, tys⟩, t, pos, af, gd⟩ = some true) (h0 : ev l x0 = some (.func (.yield L) #[] #[])) (hx : evArgs l xs.toList = some (encs x)) (hd : Nat.blt d n = true)
    (hB : B = B1 ++ J.IB s g) (hR : R = R1 ++ J.IR s g) (hF : F[j]? = some J.F)
    (h1 : ∀ s', y s x = some (.inl s') → ∀ g', SXO P ro n D M0 w0 Q ops rest ((d, .bool true) :: l) (B1 ++ J.IB s' g') (R1 ++ J.IR s' g') F (k1 s') r)
    (h2 : ∀ t, y s x = some (.inr t) → ∀ g', SXO P ro n D M0 w0 Q ops rest ((d, .bool false) :: l) (B1 ++ J.XB t g') (R1 ++ J.XR t g') F (k2 t) r) :
    SXO P ro n D M0 w0 Q ops (⟨some d, .call ⟨.value x0, xs, tys⟩, t, pos, af, gd⟩ :: rest) l B R F ((y s x).bind (Sum.elim k1 k2)) r := by
  intro hm a w hf hp
  cases hq : y s x with
  | none => rw [hq] at hm; simp at hm
  | some z =>
    rw [hq] at hm
    have hm' : Sum.elim k1 k2 z = some r := by simpa using hm
    subst hB hR
    have hp' := hp.perm (List.perm_append_comm) (List.perm_append_comm)
    have hst : Hp (muts (J.IB s g) (J.IR s g)) w w (J.IB s g) (J.IR s g) [J.F] := by
      refine hp'.startM fun φ hφ => ?_
      simp only [List.mem_singleton] at hφ
      subst hφ
      exact (hp'.per _ (List.mem_of_getElem? hF)).less fun k hk => muts_app.mem_iff.2 (List.mem_append.2 (.inl hk))
    obtain ⟨fn, tmps, asg, body, hrun, hR2⟩ := hY s x z hq g w hst
    have hrun2 : (execOp a.eval ⟨some d, .call ⟨.value x0, xs, tys⟩, t, pos, af, gd⟩).run P w = .ok (.round L fn tmps asg body) w := by
      have e1 := hf.ev h0
      have e2 := hf.evArgs hx
      have e3 : xs.map a.eval = (encs x).toArray := by rw [← e2, ← Array.toList_map, Array.toArray_toList]
      generalize a.eval = ε at e1 e3 ⊢
      simp [execOp, resolve, e1, e3, Deferred.ofValue, invoke, hrun]
    refine gwpList_in (wants_sound hf hw) (wants_calm hw) ?_
    rw [hrun2]
    refine ⟨fun hd => by simp [Wd] at hd, ?_⟩
    refine RoundIn.mono (show RoundIn (Wd ro) 0 P L fn tmps asg body w _ from hR2) ?_
    rintro e w' ⟨rfl, g', hp2⟩
    have hp3 := (hp'.callM hp2).perm (List.perm_append_comm) (List.perm_append_comm)
    cases z with
    | inl s' => exact h1 s' hq g' hm' _ _ (hf.put hd _) hp3
    | inr u => exact h2 u hq g' hm' _ _ (hf.put hd _) hp3

/-! ### The caller's side -/
abbrev rdy (rc : Loop) : Loop := { rc with state := .ready, pending := none }
abbrev bsy (rc : Loop) : Loop := { rc with state := .busy, pending := none }
abbrev don (rc : Loop) (c : Code) : Loop := { rc with state := .done, pending := some c }
abbrev rnds {σ τ γ δ : Type} (IB : σ → γ → List BlkD) (IR : σ → γ → List RowD) (XB : τ → δ → List BlkD) (XR : τ → δ → List RowD) (jump : τ → Code) (F : List (World → Prop)) (rc : Loop) (L Dk : Nat) : Rounds σ τ where
  γ := γ
  δ := δ
  IB := fun s g => IB s g ++ [blkO L (.loop (rdy rc)), dblk Dk]
  IR := IR
  XB := fun t g => XB t g ++ [blkO L (.loop (don rc (jump t))), dblk Dk]
  XR := XR
  F := fun w => ∀ φ ∈ F, φ w
def rndPost (P : Program) {σ τ : Type} (J : Rounds σ τ) (L : Nat) (M : List Nat) (w : World) (z : σ ⊕ τ) : Exit → Act → World → Prop :=
  roundPost P L (fun e w' => e = .returned (.bool z.isLeft) ∧ ∃ g', Hp M w w' (J.bs z g') (J.rs z g') [])
theorem sxq_begin {L i : Nat} {rc : Loop} {body : Code} {Q : Exit → Act → World → Prop} (hB : B[i]? = some (blkO L (.loop (rdy rc)))) (h : SXC P (some L) n [] M0 w0 Q body l (B.set i (blkO L (.loop (bsy rc)))) R F m r) :
    SXQ n [] M0 w0 (Exit.then (fun a1 w1 => ∃ w2, (Instr.beginRound L).run P w1 = .ok () w2 ∧ gwp (some L) P body Q a1 w2) (fun _ _ _ => False)) .normal l B R F m r := by
  intro hm a w hf hp
  have hb : w.heap[L]? = some (.loop (rdy rc)) := hp.blk (blkO L (.loop (rdy rc))) (List.mem_of_getElem? hB)
  exact ⟨_, run_beginRound hb rfl, h hm _ _ hf (hp.setObj hB (.loop (bsy rc)))⟩
def jumpOf : Exit → Option Code
  | .ret => some .ret
  | .exit id => some (.exit id)
  | _ => none
def isJump : Exit → Bool
  | .ret => true
  | .exit _ => true
  | .normal => true
  | _ => false
theorem sxq_round {σ τ : Type} {J : Rounds σ τ} {L : Nat} {rc : Loop} {B' : List BlkD} {x z : σ ⊕ τ} {e : Exit} (he : isJump e = true) (hT : Takes B [blkO L (.loop (bsy rc))] B') (hl : x.isLeft = (jumpOf e).isNone)
    (g' : J.G x) (hB : Pick (blkO L (.loop { rc with state := if (jumpOf e).isNone then .ready else .done, pending := jumpOf e }) :: B') (J.bs x g')) (hR : Pick R (J.rs x g')) :
    SXQ n [] M0 w0 (rndPost P J L M0 w0 z) e l B R F (some x) z := by
  intro hm a w hf hp
  obtain rfl : x = z := by simpa using hm
  have hp' := hp.perm hT.perm (List.Perm.refl _)
  have hb : w.heap[L]? = some (.loop (bsy rc)) := hp'.blk (blkO L (.loop (bsy rc))) (by simp)
  have h2 := (hp'.setObj (i := 0) (b := blkO L (.loop (bsy rc))) rfl (.loop { rc with state := if (jumpOf e).isNone then .ready else .done, pending := jumpOf e })).pick hB hR (F' := []) (by simp)
  have key : ∃ v w', (Instr.endRound L (jumpOf e)).run P w = .ok v w' ∧ (Ending.returned v = .returned (.bool x.isLeft) ∧ ∃ g', Hp M0 w0 w' (J.bs x g') (J.rs x g') []) :=
    ⟨_, _, run_endRound (jumpOf e) hb, by rw [hl], g', h2⟩
  cases e <;> first | exact key | cases he
theorem fr_params {xs : List (Tmp × Value)} : ∀ {a : Array Value} {l : Env}, (∀ p ∈ xs, p.1 < n) → Fr n [] { tmps := a, defers := [] } l → Fr n [] { tmps := xs.foldl (fun t (p, v) => t.setIfInBounds p v) a, defers := [] } (xs.foldl (fun l p => (p.1, p.2) :: l) l) := by
  induction xs with
  | nil => intro a l _ h; exact h
  | cons x xs ih =>
    intro a l hn h
    obtain ⟨p, v⟩ := x
    refine ih (fun q hq => hn q (List.mem_cons_of_mem _ hq)) ?_
    have hp := hn (p, v) (by simp)
    have := h.put (d := p) (v := v) (by simpa using hp)
    exact this
theorem sxc_range {σ τ α γ δ : Type} {encs : α → List Value} {y : σ → α → Option (σ ⊕ τ)} {gop : Operand} {ps : Array Tmp} {assign body : Code} {gf : FuncId} {lb : List Value} {mi : Option (σ ⊕ τ)} {k1 : σ → Option ρ} {k2 : τ → Option ρ}
    (IB : σ → γ → List BlkD) (IR : σ → γ → List RowD) (XB : τ → δ → List BlkD) (XR : τ → δ → List RowD) (jump : τ → Code) (s0 : σ) (g0 : γ) {B0 B' BS : List BlkD} {RS : List RowD} {Φ : List (World → Prop)}
    (hg : ev l gop = some (.func (.func gf) #[] lb.toArray)) (he : Enters P gf) (hps : ∀ x, (encs x).length = ps.size) (hpn : ps.toList.all (fun p => Nat.blt p n) = true)
    (hB0 : Takes B B0 B') (hB1 : Takes B' (IB s0 g0) BS) (hR : Takes R (IR s0 g0) RS) (hΦ : ArgsM RS F Φ)
    (hC : ∀ z, mi = some z → ∀ rc L Dk, YieldC P L encs (rnds IB IR XB XR jump F rc L Dk) y →
      PureM P gf (.func (.yield L) #[] #[] :: lb) (B0 ++ (rnds IB IR XB XR jump F rc L Dk).IB s0 g0) (IR s0 g0) ((rnds IB IR XB XR jump F rc L Dk).F :: Φ) ((rnds IB IR XB XR jump F rc L Dk).G z) (fun _ => .tuple #[])
        (fun g => B0 ++ (rnds IB IR XB XR jump F rc L Dk).bs z g) (fun g => (rnds IB IR XB XR jump F rc L Dk).rs z g))
    (hbody : ∀ rc L Dk s g x z w M, M = muts (IB s g ++ [blkO L (.loop (rdy rc)), dblk Dk]) (IR s g) →
      SXC P (some L) n [] M w (Exit.then (fun a1 w1 => ∃ w2, (Instr.beginRound L).run P w1 = .ok () w2 ∧ gwp (some L) P body (rndPost P (rnds IB IR XB XR jump F rc L Dk) L M w z) a1 w2) (fun _ _ _ => False))
        assign ((ps.toList.zip (encs x)).foldl (fun l p => (p.1, p.2) :: l) l) (IB s g ++ [blkO L (.loop (rdy rc)), dblk Dk]) (IR s g) F (y s x) z)
    (hdone : ∀ s, mi = some (.inl s) → ∀ g Dk, SXQ n (mark Dk :: D) M0 w0 Q .normal l (dblk Dk :: (B0 ++ (IB s g ++ BS))) (IR s g ++ RS) F (k1 s) r)
    (hstop : ∀ t, mi = some (.inr t) → ∀ g Dk, SXC P none n (mark Dk :: D) M0 w0 Q (jump t) l (dblk Dk :: (B0 ++ (XB t g ++ BS))) (XR t g ++ RS) F (k2 t) r) :
    SXC P none n D M0 w0 Q (.rangeFunc gop ps assign body) l B R F (mi.bind (Sum.elim k1 k2)) r := by
  intro hm a w hf hp
  cases hq : mi with
  | none => rw [hq] at hm; simp at hm
  | some z =>
  rw [hq] at hm
  have hm' : Sum.elim k1 k2 z = some r := by simpa using hm
  refine wpIn_rangeFunc ?_
  intro fn _
  obtain ⟨rc, hrc⟩ : ∃ rc : Loop, rc = { state := .ready, pending := none, fn, tmps := a.tmps, params := ps, assign, body, defers := w.heap.size } := ⟨_, rfl⟩
  obtain ⟨L, hL⟩ : ∃ L, L = w.heap.size + 1 := ⟨_, rfl⟩
  obtain ⟨Dk, hDk⟩ : ∃ Dk, Dk = w.heap.size := ⟨_, rfl⟩
  obtain ⟨W1, hW1⟩ : ∃ W1, (w.alloc (.deferred (some []))).alloc (.loop (rdy rc)) = W1 := ⟨_, rfl⟩
  have hp1 : Hp M0 w0 W1 (blkO L (.loop (rdy rc)) :: dblk Dk :: B) R F := by
    rw [← hW1]
    have := (hp.allocO (.deferred (some []))).allocO (.loop (rdy rc))
    rw [World.size_alloc] at this
    rw [hL, hDk]
    exact this
  have hp2 : Hp M0 w0 W1 ((B0 ++ (IB s0 g0 ++ [blkO L (.loop (rdy rc)), dblk Dk])) ++ BS) (IR s0 g0 ++ RS) F := by
    refine hp1.perm ?_ hR.perm
    refine (List.Perm.append_left [_, _] (hB0.perm.trans (List.Perm.append_left _ hB1.perm))).trans ?_
    rw [← List.append_assoc, ← List.append_assoc, ← List.append_assoc]
    refine List.Perm.append_right _ ?_
    rw [List.append_assoc]
    exact List.perm_append_comm
  have hY : YieldC P L encs (rnds IB IR XB XR jump F rc L Dk) y := by
    intro s x z hz g w1 hp
    have hb : w1.heap[L]? = some (.loop (rdy rc)) := hp.blk (blkO L (.loop (rdy rc))) (by simp)
    have hy := run_yield (P := P) (args := (encs x).toArray) hb (by rw [hrc]; simpa using hps x)
    refine ⟨_, _, _, _, hy, roundIn_of_wpIn trivial ?_⟩
    have hfacts : Hp (muts (IB s g ++ [blkO L (.loop (rdy rc)), dblk Dk]) (IR s g)) w1 w1 (IB s g ++ [blkO L (.loop (rdy rc)), dblk Dk]) (IR s g) F := hp.facts fun φ hφ w' hk => hp.per _ (List.mem_singleton.2 rfl) w' hk φ hφ
    have hfr : Fr n [] { tmps := ((rdy rc).params.zip (encs x).toArray).foldl (fun tmps (t, a) => tmps.setIfInBounds t a) (rdy rc).tmps, defers := [] } ((ps.toList.zip (encs x)).foldl (fun l p => (p.1, p.2) :: l) l) := by
      have h0 : Fr n [] { tmps := a.tmps, defers := [] } l := ⟨rfl, hf.size, hf.val⟩
      have h1 := fr_params (xs := ps.toList.zip (encs x)) (fun p hp => by
        have := (List.of_mem_zip hp).1
        rw [List.all_eq_true] at hpn
        simpa using hpn p.1 this) h0
      rw [hrc]
      have h2 : (ps.zip (encs x).toArray).foldl (fun tmps (t, a) => tmps.setIfInBounds t a) a.tmps = (ps.toList.zip (encs x)).foldl (fun tmps (t, a) => tmps.setIfInBounds t a) a.tmps := by
        rw [← Array.foldl_toList]
        simp
      simp only [h2]
      exact h1
    have := hbody rc L Dk s g x z w1 _ rfl hz _ w1 hfr hfacts
    rw [hrc] at this ⊢
    exact this
  have hrun := hC z hq rc L Dk hY W1 (hp2.startM fun φ hφ => by
    rcases List.mem_cons.1 hφ with rfl | hφ
    · intro w' hk φ hφ
      exact ((hp2.per _ hφ).less fun k hk => muts_app.mem_iff.2 (List.mem_append.2 (.inl hk))) w' hk
    · exact hΦ.ok hp2 φ hφ)
  refine ⟨L, [mark Dk], W1, { target := .fn (.func gf) lb.toArray, args := #[.func (.yield L) #[] #[]] }, W1, gf, #[.func (.yield L) #[] #[]] ++ lb.toArray, W1, ?_, ?_, fun _ _ => trivial, ?_, fun h => by simp [Wd] at h, ?_⟩
  · rw [← hW1, hrc, hL, hDk]; exact run_enterLoop_outer _ _ _ _ _
  · have e1 := hf.ev hg
    simp only [resolve, e1]
    simp [go_sem]
  · simp [invoke, go_sem]
    exact he _ W1
  · refine callsIn_wide.2 ?_
    have harr : (.func (.yield L) #[] #[] :: lb : List Value).toArray = #[.func (.yield L) #[] #[]] ++ lb.toArray := by simp
    rw [← harr]
    refine hrun.mono ?_
    rintro e w' ⟨g', rfl, hpe⟩
    have hp3 := hp2.callM hpe
    have hfr : Fr n (mark Dk :: D) { a with defers := [mark Dk] ++ a.defers } l := ⟨by simp [hf.defers], hf.size, hf.val⟩
    cases z with
    | inl s =>
      have hb : w'.heap[L]? = some (.loop (rdy rc)) := hp3.blk (blkO L (.loop (rdy rc))) (List.mem_append.2 (.inl (List.mem_append.2 (.inr (List.mem_append.2 (.inr (by simp)))))))
      refine ⟨none, _, run_endLoop hb (by simp), ?_⟩
      refine hdone s hq g' Dk hm' _ _ hfr ?_
      have hp4 : Hp M0 w0 w' (blkO L (.loop (rdy rc)) :: (dblk Dk :: (B0 ++ (IB s g' ++ BS)))) (IR s g' ++ RS) F := by
        refine hp3.perm ?_ (List.Perm.refl _)
        show ((B0 ++ (IB s g' ++ [blkO L (.loop (rdy rc)), dblk Dk])) ++ BS).Perm ([blkO L (.loop (rdy rc)), dblk Dk] ++ (B0 ++ (IB s g' ++ BS)))
        rw [← List.append_assoc, ← List.append_assoc, ← List.append_assoc]
        refine List.Perm.append_right _ ?_
        rw [List.append_assoc [_, _]]
        exact List.perm_append_comm
      exact (hp4.setObj (i := 0) (b := blkO L (.loop (rdy rc))) rfl _).weaken (by simp) (List.Sublist.refl _) (fun φ h => h)
    | inr t =>
      have hb : w'.heap[L]? = some (.loop (don rc (jump t))) := hp3.blk (blkO L (.loop (don rc (jump t)))) (List.mem_append.2 (.inl (List.mem_append.2 (.inr (List.mem_append.2 (.inr (by simp)))))))
      refine ⟨some (jump t), _, run_endLoop hb (by simp), ?_⟩
      refine hstop t hq g' Dk hm' _ _ hfr ?_
      have hp4 : Hp M0 w0 w' (blkO L (.loop (don rc (jump t))) :: (dblk Dk :: (B0 ++ (XB t g' ++ BS)))) (XR t g' ++ RS) F := by
        refine hp3.perm ?_ (List.Perm.refl _)
        show ((B0 ++ (XB t g' ++ [blkO L (.loop (don rc (jump t))), dblk Dk])) ++ BS).Perm ([blkO L (.loop (don rc (jump t))), dblk Dk] ++ (B0 ++ (XB t g' ++ BS)))
        rw [← List.append_assoc, ← List.append_assoc, ← List.append_assoc]
        refine List.Perm.append_right _ ?_
        rw [List.append_assoc [_, _]]
        exact List.perm_append_comm
      exact (hp4.setObj (i := 0) (b := blkO L (.loop (don rc (jump t)))) rfl _).weaken (by simp) (List.Sublist.refl _) (fun φ h => h)
/-- A function with what it has captured. -/
theorem sxo_makeFunc {f : FuncId} {xs : Array Operand} {vs : List Value} {d : Nat} (hw : wants ops l ⟨some d, .makeFunc (.func f) #[] xs, t, pos, af, gd⟩ = some true) (hx : evArgs l xs.toList = some vs) (hd : Nat.blt d n = true)
    (h : SXO P ro n D M0 w0 Q ops rest ((d, .func (.func f) #[] vs.toArray) :: l) B R F m r) : SXO P ro n D M0 w0 Q ops (⟨some d, .makeFunc (.func f) #[] xs, t, pos, af, gd⟩ :: rest) l B R F m r :=
  sxo_val _ hw rfl hd (fun a w hf _ => by
    have h2 := hf.evArgs hx
    have h3 : xs.map a.eval = vs.toArray := by rw [← h2, ← Array.toList_map, Array.toArray_toList]
    generalize a.eval = ε at h3 ⊢
    simp [execOp, Instr.makeFunc, h3]) h
/-! ### A call of a function that lies in a slot -/
theorem run_callV {a : Act} {x0 : Operand} {f : FuncId} {xs : Array Operand} {tys : Array TypeId} {vs cs : List Value} {w : World} {dst : Option Tmp} (hf : Fr n D a l) (he : Enters P f) (h0 : ev l x0 = some (.func (.func f) #[] cs.toArray)) (hx : evArgs l xs.toList = some vs) :
    (execOp a.eval ⟨dst, .call ⟨.value x0, xs, tys⟩, t, pos, af, gd⟩).run P w = .ok (.enter f (vs ++ cs).toArray) w := by
  have h1 := hf.ev h0
  have h2 := hf.evArgs hx
  have h3 : xs.map a.eval = vs.toArray := by rw [← h2, ← Array.toList_map, Array.toArray_toList]
  have h4 := he (vs ++ cs).toArray w
  have h5 : (vs ++ cs).toArray = vs.toArray ++ cs.toArray := by simp
  generalize a.eval = ε at h1 h3 ⊢
  rw [h5] at h4 ⊢
  simp only [List.append_toArray] at h4
  simp [execOp, resolve, h1, h3, Deferred.ofValue, invoke, h4]
theorem sxo_callV {α γ : Type} {mg : Option α} {k : α → Option ρ} {x0 : Operand} {f : FuncId} {xs : Array Operand} {tys : Array TypeId} {vs cs : List Value} {Φ : List (World → Prop)} {d : Nat} {V : α → γ → Value} {RW : α → γ → List RowD} {PH : α → γ → List (World → Prop)}
    (he : Enters P f) (h0 : ev l x0 = some (.func (.func f) #[] cs.toArray)) (hw : wants ops l ⟨some d, .call ⟨.value x0, xs, tys⟩, t, pos, af, gd⟩ = some true) (hx : evArgs l xs.toList = some vs) (hd : Nat.blt d n = true)
    (hC : ∀ y, mg = some y → Pure P f (vs ++ cs) Φ γ (V y) (RW y) (PH y)) (ha : Args R F Φ)
    (h : ∀ y, mg = some y → ∀ g, SXO P ro n D M0 w0 Q ops rest ((d, V y g) :: l) B (RW y g ++ R) (PH y g ++ F) (k y) r) :
    SXO P ro n D M0 w0 Q ops (⟨some d, .call ⟨.value x0, xs, tys⟩, t, pos, af, gd⟩ :: rest) l B R F (mg.bind k) r := by
  intro hm a w hf hp
  cases hq : mg with
  | none => rw [hq] at hm; simp at hm
  | some y =>
    rw [hq] at hm
    have hm' : k y = some r := by simpa using hm
    refine gwpList_call (wants_sound hf hw) (wants_calm hw) (run_callV hf he h0 hx) ((hC y hq w (Hp.start (ha.ok hp))).mono fun e w' ⟨g, h1, h2⟩ => ⟨V y g, h1, ?_⟩)
    exact h y hq g hm' _ _ (hf.put hd _) (hp.call h2)
theorem sxo_callMV {α γ : Type} {mg : Option α} {k : α → Option ρ} {x0 : Operand} {f : FuncId} {xs : Array Operand} {tys : Array TypeId} {vs cs : List Value} {Φ : List (World → Prop)} {d : Nat} {V : α → γ → Value} {B0 BS : List BlkD} {R0 RS : List RowD} {B1 : α → γ → List BlkD} {R1 : α → γ → List RowD}
    (he : Enters P f) (h0 : ev l x0 = some (.func (.func f) #[] cs.toArray)) (hw : wants ops l ⟨some d, .call ⟨.value x0, xs, tys⟩, t, pos, af, gd⟩ = some true) (hx : evArgs l xs.toList = some vs) (hd : Nat.blt d n = true)
    (hC : ∀ y, mg = some y → PureM P f (vs ++ cs) B0 R0 Φ γ (V y) (B1 y) (R1 y)) (hB : Takes B B0 BS) (hR : Takes R R0 RS) (ha : ArgsM RS F Φ)
    (h : ∀ y, mg = some y → ∀ g, SXO P ro n D M0 w0 Q ops rest ((d, V y g) :: l) (B1 y g ++ BS) (R1 y g ++ RS) F (k y) r) :
    SXO P ro n D M0 w0 Q ops (⟨some d, .call ⟨.value x0, xs, tys⟩, t, pos, af, gd⟩ :: rest) l B R F (mg.bind k) r := by
  intro hm a w hf hp
  cases hq : mg with
  | none => rw [hq] at hm; simp at hm
  | some y =>
    rw [hq] at hm
    have hm' : k y = some r := by simpa using hm
    have hp' := hp.perm hB.perm hR.perm
    refine gwpList_call (wants_sound hf hw) (wants_calm hw) (run_callV hf he h0 hx) ((hC y hq w (hp'.startM (ha.ok hp'))).mono fun e w' ⟨g, h1, h2⟩ => ⟨V y g, h1, ?_⟩)
    exact h y hq g hm' _ _ (hf.put hd _) (hp'.callM h2)
theorem look_less {i : Nat} {v : Value} : ∀ (l' : Env), (∀ p ∈ l', look l p.1 = some p.2) → look l' i = some v → look l i = some v
  | [], _, h => by simp [look] at h
  | (k, u) :: l', h, hv => by
    rw [look_cons] at hv
    split at hv
    · rename_i e
      subst e
      rw [← hv]
      exact h (_, u) (by simp)
    · exact look_less l' (fun p hp => h p (List.mem_cons_of_mem _ hp)) hv
theorem sxc_less {c : Code} (l' : Env) (h : ∀ p ∈ l', look l p.1 = some p.2) (hc : SXC P ro n D M0 w0 Q c l' B R F m r) : SXC P ro n D M0 w0 Q c l B R F m r :=
  fun hm a w hf hp => hc hm a w ⟨hf.defers, hf.size, fun i v hv => hf.val i v (look_less l' h hv)⟩ hp
end
end SX

namespace SX
open Go

/-! ### A region that draws its order, some of whose operations write: what is read holds until the first of those has come up -/
section
variable {P : Program} {ro : Option Nat} {ops : Array Oper} {Q : Exit → Act → World → Prop}
def opK (ro : Option Nat) (P : Program) (ops : Array Oper) (Q : Exit → Act → World → Prop) (i : Nat) (K : Act → World → Prop) (a : Act) (w : World) : Prop := wpOpIn (Wd ro) 0 P ops Q i K a w
def anyK (ro : Option Nat) (P : Program) (ops : Array Oper) (Q : Exit → Act → World → Prop) (S : Array Bool → World → Prop) : Nat → Array Bool → Act → World → Prop
  | 0, done, a, w => Region.ready .any ops done = [] ∧ Q .normal a w
  | fuel + 1, done, a, w => (Region.ready .any ops done = [] → Q .normal a w) ∧
    ∀ i ∈ Region.ready .any ops done, opK ro P ops Q i (fun a' w' => S (done.setIfInBounds i true) w' ∧ anyK ro P ops Q S fuel (done.setIfInBounds i true) a' w') a w
theorem anyK_sound {S : Array Bool → World → Prop} : ∀ (fuel : Nat) (done : Array Bool) (a : Act) (w : World), anyK ro P ops Q S fuel done a w → wpAnyIn (Wd ro) 0 P .any ops Q fuel done a w
  | 0, _, _, _, h => h
  | fuel + 1, _, _, _, h => ⟨h.1, fun i hi => wpOpIn_mono (fun a' w' h' => anyK_sound fuel _ a' w' h'.2) (h.2 i hi)⟩
def calmA (ops : Array Oper) : Bool := ops.all fun o => calm o
theorem calmA_spec (h : calmA ops = true) {j : Nat} {o : Oper} (ho : ops[j]? = some o) : ∀ c, o.op ≠ .defer c := by
  have := Array.all_eq_true_iff_forall_mem.1 h o (Array.mem_of_getElem? ho)
  intro c hc
  unfold calm at this
  rw [hc] at this
  simp at this
/-- In this state, wherever T holds, the operation leaves v and does nothing else. -/
def YI (P : Program) (ops : Array Oper) (T : World → Prop) (o : Oper) (v : Value) (a : Act) : Prop :=
  (Region.wanted o (yielded ops a.tmps) = true ∧ ∀ w, T w → (execOp a.eval o).run P w = .ok (.value v) w) ∨ (Region.wanted o (yielded ops a.tmps) = false ∧ v = undef)
theorem YI.of_same {T : World → Prop} {o : Oper} {v : Value} {a a' : Act} (hy : YI P ops T o v a) (he : execOp a'.eval o = execOp a.eval o) (hw : Region.wanted o (yielded ops a'.tmps) = Region.wanted o (yielded ops a.tmps)) : YI P ops T o v a' := by
  unfold YI at *
  rw [he, hw]
  exact hy
theorem YI.op {T : World → Prop} {i : Nat} {o : Oper} {v : Value} {a : Act} (hi : ops[i]? = some o) (hc : ∀ c, o.op ≠ .defer c) (hy : YI P ops T o v a) {K : Act → World → Prop} {w : World} (hT : T w) (h : K (a.put o.dst v) w) : opK ro P ops Q i K a w := by
  unfold opK wpOpIn
  simp only [hi]
  rcases hy with ⟨hw, hv⟩ | ⟨hw, rfl⟩
  · rw [if_pos hw]
    refine ⟨fun _ _ => trivial, ?_⟩
    rw [Oper.semAt_eq _ _ _ hc, hv w hT]
    exact h
  · rw [if_neg (by rw [hw]; simp)]
    exact ⟨fun _ _ => trivial, h⟩
theorem opK_put {T : World → Prop} {j : Nat} {oi oj : Oper} {v : Value} (hj : ops[j]? = some oj) (hcj : ∀ c, oj.op ≠ .defer c) (hap : oi.apart ops oj = true) (hsi : ∀ cs b, oi.op ≠ .select cs b) (hsj : ∀ cs b, oj.op ≠ .select cs b)
    (hQ : ∀ c a w, Q (.panic c) (a.put oi.dst v) w → Q (.panic c) a w) {K : Act → World → Prop} {a : Act} {w : World} (hy : YI P ops T oi v a) (h : opK ro P ops Q j K (a.put oi.dst v) w) :
    opK ro P ops Q j (fun a' w' => YI P ops T oi v a' ∧ K (a'.put oi.dst v) w') a w := by
  obtain ⟨h1, h2, h3⟩ := Oper.apart_spec hap
  have keep : ∀ (a : Act), YI P ops T oi v a → ∀ u, YI P ops T oi v (a.put oj.dst u) := fun a hy u => hy.of_same (execOp_put oi hsi a oj.dst u h3) (wanted_put oi a oj.dst u h3)
  unfold opK wpOpIn at *
  simp only [hj] at *
  rw [wanted_put oj a oi.dst v h1] at h
  split
  · rename_i hw
    rw [if_pos hw] at h
    refine ⟨fun _ _ => trivial, ?_⟩
    have h' := h.2
    rw [Oper.semAt_eq _ _ _ hcj] at h' ⊢
    rw [execOp_put oj hsj a oi.dst v h1] at h'
    generalize (execOp a.eval oj).run P w = x at h' ⊢
    cases x with
    | ok n w' =>
      cases n with
      | value u => exact ⟨keep a hy u, by rw [← Act.put_comm a v u h2]; exact h'⟩
      | skip => exact ⟨keep a hy _, by rw [← Act.put_comm a v undef h2]; exact h'⟩
      | defer d =>
        refine ⟨keep { a with defers := d :: a.defers } (hy.of_same rfl rfl) _, ?_⟩
        rw [← Act.put_comm _ v undef h2, ← Act.put_defers]
        exact h'
      | enter f args =>
        refine ⟨h'.1, h'.2.mono fun e w'' he => ?_⟩
        cases e with
        | returned u => exact ⟨keep a hy u, by rw [← Act.put_comm a v u h2]; exact he⟩
        | panicked c => exact hQ _ _ _ he
        | outgrown => exact he
      | row row args => exact ⟨h'.1, h'.2.mono fun u w'' he => ⟨keep a hy u, by rw [← Act.put_comm a v u h2]; exact he⟩⟩
      | round l f tmps asg body =>
        refine ⟨h'.1, h'.2.mono fun e w'' he => ?_⟩
        cases e with
        | returned u => exact ⟨keep a hy u, by rw [← Act.put_comm a v u h2]; exact he⟩
        | panicked c => exact hQ _ _ _ he
        | outgrown => exact he
      | _ => exact h'
    | halt x w' => cases x <;> first | exact hQ _ _ _ h' | exact h'
  · rename_i hw
    rw [if_neg hw] at h
    exact ⟨fun _ _ => trivial, keep a hy _, by rw [← Act.put_comm a v undef h2]; exact h.2⟩
/-- What has come up has come up behind what it waits for. -/
def Closed (ops : Array Oper) (done : Array Bool) : Prop := ∀ d o, ops[d]? = some o → done.getD d true = true → ∀ e ∈ o.after, Region.binds .any e = true → done.getD e.on false = true
def closedB (ops : Array Oper) (done : Array Bool) : Bool :=
  (List.range ops.size).all fun d => !(done.getD d true) || (match ops[d]? with | some o => o.after.all fun e => !(Region.binds .any e) || done.getD e.on false | none => true)
theorem closed_of {done : Array Bool} (h : closedB ops done = true) : Closed ops done := by
  intro d o ho hd e he hb
  have hlt := (Array.getElem?_eq_some_iff.1 ho).1
  have := List.all_eq_true.1 h d (List.mem_range.2 hlt)
  rw [hd, ho] at this
  simp only [Bool.not_true, Bool.false_or] at this
  have := Array.all_eq_true_iff_forall_mem.1 this e he
  rw [hb] at this
  simpa using this
theorem Closed.step {done : Array Bool} {j : Nat} (h : Closed ops done) (hj : j ∈ Region.ready .any ops done) : Closed ops (done.setIfInBounds j true) := by
  intro d o ho hd e he hb
  obtain ⟨_, oj, hoj, hall⟩ := mem_ready.1 hj
  by_cases hjd : j = d
  · subst hjd
    rw [ho] at hoj
    cases hoj
    exact getD_set_true (hall e he hb)
  · rw [getD_set_ne true hjd] at hd
    exact getD_set_true (h d o ho hd e he hb)
def edgeB (ops : Array Oper) (c d : Nat) : Bool := match ops[d]? with | some o => o.after.any fun e => Region.binds .any e && e.on == c | none => false
def chB (ops : Array Oper) : Nat → List Nat → Nat → Bool
  | c, [], p => c == p
  | c, d :: ds, p => edgeB ops c d && chB ops d ds p
theorem chain {done : Array Bool} (h : Closed ops done) : ∀ (ds : List Nat) (c p : Nat), chB ops c ds p = true → done.getD p true = true → done.getD c true = true
  | [], c, p, hc, hp => by
    have : c = p := by simpa [chB] using hc
    rw [this]; exact hp
  | d :: ds, c, p, hc, hp => by
    simp only [chB, Bool.and_eq_true] at hc
    have hd := chain h ds d p hc.2 hp
    have he := hc.1
    unfold edgeB at he
    cases ho : ops[d]? with
    | none => rw [ho] at he; simp at he
    | some o =>
      rw [ho] at he
      simp only at he
      rw [Array.any_eq_true] at he
      obtain ⟨k, hk, hb⟩ := he
      simp only [Bool.and_eq_true, beq_iff_eq] at hb
      have := h d o ho hd o.after[k] (Array.getElem_mem hk) hb.1
      rw [hb.2] at this
      simp only [Array.getD_eq_getD_getElem?] at this ⊢
      cases hx : done[c]? with
      | none => rw [hx] at this; simp at this
      | some b => rw [hx] at this; simpa using this
theorem anyK_first {T : World → Prop} {S : Array Bool → World → Prop} {i : Nat} {oi : Oper} {v : Value} (hi : ops[i]? = some oi) (hcalm : calmA ops = true) (hsel : ∀ (j : Nat) (o : Oper) cs b, ops[j]? = some o → o.op ≠ .select cs b)
    (hQ : ∀ c a w, Q (.panic c) (a.put oi.dst v) w → Q (.panic c) a w) (hST : ∀ done w, done.getD i true = false → Closed ops done → S done w → T w)
    (hSi : ∀ done w, S (done.setIfInBounds i true) w → S done w) (hSm : ∀ done w, S done w → S (done.setIfInBounds i true) w) :
    ∀ (fuel : Nat) (done : Array Bool) (a : Act) (w : World),
      (∀ j oj, ops[j]? = some oj → j ≠ i → done.getD j true = false → (∀ e ∈ oj.after, Region.binds .any e = true → e.on ≠ i) → oi.apart ops oj = true) →
      i ∈ Region.ready .any ops done → Closed ops done → YI P ops T oi v a → S done w →
      anyK ro P ops Q S fuel (done.setIfInBounds i true) (a.put oi.dst v) w → anyK ro P ops Q S (fuel + 1) done a w := by
  intro fuel
  induction fuel with
  | zero =>
    intro done a w _ hr hcl hy hS H
    refine ⟨fun h => (by rw [h] at hr; cases hr), fun j hj => ?_⟩
    by_cases hji : j = i
    · subst hji
      exact hy.op hi (calmA_spec hcalm hi) (hST _ _ (mem_ready.1 hr).1 hcl hS) ⟨hSm _ _ hS, H⟩
    · have := ready_mono hj hji
      rw [H.1] at this
      cases this
  | succ fuel ih =>
    intro done a w hfree hr hcl hy hS H
    refine ⟨fun h => (by rw [h] at hr; cases hr), fun j hj => ?_⟩
    by_cases hji : j = i
    · subst hji
      exact hy.op hi (calmA_spec hcalm hi) (hST _ _ (mem_ready.1 hr).1 hcl hS) ⟨hSm _ _ hS, H⟩
    · have h1 := H.2 j (ready_mono hj hji)
      obtain ⟨hjun, oj, hoj, hall⟩ := mem_ready.1 hj
      have hnot : ∀ e ∈ oj.after, Region.binds .any e = true → e.on ≠ i := fun e he hb heq => by
        have h1 := hall e he hb
        have h0 := (mem_ready.1 hr).1
        rw [heq] at h1
        simp only [Array.getD_eq_getD_getElem?] at h0 h1
        cases hx : done[i]? with
        | none => rw [hx] at h1; simp at h1
        | some b => rw [hx] at h0 h1; simp at h0 h1; rw [h0] at h1; cases h1
      have h2 := opK_put hoj (calmA_spec hcalm hoj) (hfree j oj hoj hji hjun hnot) (fun cs b => hsel i oi cs b hi) (fun cs b => hsel j oj cs b hoj) hQ hy h1
      have hfree' : ∀ k ok, ops[k]? = some ok → k ≠ i → (done.setIfInBounds j true).getD k true = false → (∀ e ∈ ok.after, Region.binds .any e = true → e.on ≠ i) → oi.apart ops ok = true := fun k ok hk hki hun hno => by
        refine hfree k ok hk hki ?_ hno
        by_cases hjk : j = k
        · subst hjk; exact hjun
        · rw [getD_set_ne true hjk] at hun; exact hun
      refine wpOpIn_mono (fun a' w' h3 => ?_) h2
      have hS' : S (done.setIfInBounds j true) w' := hSi _ _ (by rw [Array.setIfInBounds_comm _ _ hji]; exact h3.2.1)
      refine ⟨hS', ih (done.setIfInBounds j true) a' w' hfree' (ready_mono hr (Ne.symm hji)) (hcl.step hj) h3.1 hS' ?_⟩
      rw [Array.setIfInBounds_comm _ _ hji]
      exact h3.2.2
end

section
variable {P : Program} {ro : Option Nat} {n : Nat} {D : List Deferred} {M0 : List Nat} {w0 : World} {Q : Exit → Act → World → Prop} {ρ : Type}
variable {ops : Array Oper} {rest : List Oper} {l : Env} {B Bs : List BlkD} {R : List RowD} {F Fs : List (World → Prop)} {m : Option ρ} {r : ρ} {ps : List Nat}
def Sh (ps : List Nat) (Bs : List BlkD) (Fs : List (World → Prop)) (done : Array Bool) (w : World) : Prop := (∀ p ∈ ps, done.getD p true = false) → Stay Bs Fs w
def SXB (P : Program) (ro : Option Nat) (ps : List Nat) (n : Nat) (D : List Deferred) (M0 : List Nat) (w0 : World) (Q : Exit → Act → World → Prop) {ρ : Type} (ops : Array Oper) (Bs : List BlkD) (Fs : List (World → Prop)) (fuel : Nat) (done : Array Bool)
    (l : Env) (B : List BlkD) (R : List RowD) (F : List (World → Prop)) (m : Option ρ) (r : ρ) : Prop :=
  m = some r → ∀ a w, Fr n D a l → Hp M0 w0 w B R F → Sh ps Bs Fs done w → anyK ro P ops Q (Sh ps Bs Fs) fuel done a w
theorem gk_nil : ∀ φ ∈ ([] : List (World → Prop)), φ ∈ F ∨ ∃ rd ∈ R, ∀ w, Cells rd.v rd.n rd.size rd.cs w → φ w := by simp
theorem gk_F {φ : World → Prop} {r : List (World → Prop)} (j : Nat) (h : F[j]? = some φ) (hr : ∀ φ ∈ r, φ ∈ F ∨ ∃ rd ∈ R, ∀ w, Cells rd.v rd.n rd.size rd.cs w → φ w) :
    ∀ ψ ∈ (φ :: r), ψ ∈ F ∨ ∃ rd ∈ R, ∀ w, Cells rd.v rd.n rd.size rd.cs w → ψ w := by
  intro p hp
  rcases List.mem_cons.1 hp with rfl | hp
  · exact .inl (List.mem_of_getElem? h)
  · exact hr p hp
theorem gk_R {φ : World → Prop} {r : List (World → Prop)} (j : Nat) {rd : RowD} (h : R[j]? = some rd) (hφ : ∀ w, Cells rd.v rd.n rd.size rd.cs w → φ w) (hr : ∀ φ ∈ r, φ ∈ F ∨ ∃ rd ∈ R, ∀ w, Cells rd.v rd.n rd.size rd.cs w → φ w) :
    ∀ ψ ∈ (φ :: r), ψ ∈ F ∨ ∃ rd ∈ R, ∀ w, Cells rd.v rd.n rd.size rd.cs w → ψ w := by
  intro p hp
  rcases List.mem_cons.1 hp with rfl | hp
  · exact .inr ⟨rd, List.mem_of_getElem? h, hφ⟩
  · exact hr p hp
theorem stay_of2 {w : World} (hp : Hp M0 w0 w B R F) (hB : Pick B Bs) (hF : ∀ φ ∈ Fs, φ ∈ F ∨ ∃ rd ∈ R, ∀ w, Cells rd.v rd.n rd.size rd.cs w → φ w) : Stay Bs Fs w := by
  have h := hp.pick (B' := Bs) (R' := []) (F' := []) hB .nil (by simp)
  refine ⟨h.blk, fun φ hφ => ?_⟩
  rcases hF φ hφ with h1 | ⟨rd, h1, h2⟩
  · exact (hp.per φ h1).here
  · exact h2 w (ownsRow_cells (hp.row rd h1))
theorem sxb_draw {id : Nat} {os : List Oper} (hm : P.follows .mixedOrders = true) (ps : List Nat) (Bs : List BlkD) (Fs : List (World → Prop)) (hB : Pick B Bs) (hF : ∀ φ ∈ Fs, φ ∈ F ∨ ∃ rd ∈ R, ∀ w, Cells rd.v rd.n rd.size rd.cs w → φ w) (k : Nat) (hk : os.length = k)
    (h : SXB P ro ps n D M0 w0 (noPanic Q) os.toArray Bs Fs k (Array.replicate k false) l B R F m r) : SXC P ro n D M0 w0 Q (.region id os.toArray true) l B R F m r := by
  intro hmm a w hf hp
  refine gwp_mono (Q := noPanic Q) (wpIn_region_any hm ?_) fun e a w hq => ?_
  · have hp' : Hp M0 w0 { w with drawn := w.drawn + 1 } B R F := hp.step (Keeps.of_heap rfl rfl rfl rfl)
    have := h hmm a _ hf hp' (fun _ => stay_of2 hp' hB hF)
    refine anyK_sound (S := Sh ps Bs Fs) _ _ _ _ ?_
    simpa [hk] using this
  · cases e <;> first | exact hq | exact hq.elim
def chsB (ops : Array Oper) (i : Nat) : List (List Nat) → List Nat → Bool
  | [], [] => true
  | c :: cs, p :: ps => chB ops i c p && chsB ops i cs ps
  | _, _ => false
theorem chs_all {i : Nat} {done : Array Bool} (hcl : Closed ops done) (hd : done.getD i true = false) : ∀ (cs : List (List Nat)) (ps : List Nat), chsB ops i cs ps = true → ∀ p ∈ ps, done.getD p true = false
  | [], [], _, p, hp => by simp at hp
  | c :: cs, q :: ps, h, p, hp => by
    simp only [chsB, Bool.and_eq_true] at h
    rcases List.mem_cons.1 hp with rfl | hp
    · cases hx : done.getD p true with
      | false => rfl
      | true => rw [chain hcl c i p h.1 hx] at hd; exact hd
    · exact chs_all hcl hd cs ps h.2 p hp
  | [], _ :: _, h, _, _ => by simp [chsB] at h
  | _ :: _, [], h, _, _ => by simp [chsB] at h
theorem Sh.set {i : Nat} {done : Array Bool} {w : World} (hi : ps.contains i = false) : Sh ps Bs Fs (done.setIfInBounds i true) w ↔ Sh ps Bs Fs done w := by
  have key : ∀ p ∈ ps, (done.setIfInBounds i true).getD p true = done.getD p true := fun p hp => getD_set_ne true (by rintro rfl; simp [hp] at hi)
  unfold Sh
  constructor
  · intro h h2; exact h fun p hp => by rw [key p hp]; exact h2 p hp
  · intro h h2; exact h fun p hp => by rw [← key p hp]; exact h2 p hp
/-- An operation that reads what stays till the writers come up. -/
theorem sxb_take {fuel : Nat} {done done' : Array Bool} (i : Nat) {o : Oper} {d : Nat} (V : Value) (cs : List (List Nat)) (ho : ops[i]? = some o) (hd : o.dst = some d) (hdn : Nat.blt d n = true) (hw : wants ops l o = some true)
    (hca : calmA ops = true) (hs : Region.noSelect ops = true) (hfr : Region.free .any ops done i = true) (hr : (Region.ready .any ops done).contains i = true) (hcl : closedB ops done = true) (hch : chsB ops i cs ps = true) (hni : ps.contains i = false) (hdone : done.setIfInBounds i true = done')
    (hy : Yv P l Bs Fs o V) (h : SXB P ro ps n D M0 w0 (noPanic Q) ops Bs Fs fuel done' ((d, V) :: l) B R F m r) : SXB P ro ps n D M0 w0 (noPanic Q) ops Bs Fs (fuel + 1) done l B R F m r := by
  intro hm a w hf hp hS
  refine anyK_first (S := Sh ps Bs Fs) (T := Stay Bs Fs) (v := V) ho hca (Region.noSelect_spec hs) (fun c a w h => h) (fun done w h1 h2 h3 => h3 (chs_all h2 h1 cs ps hch)) (fun _ _ h => (Sh.set hni).1 h) (fun _ _ h => (Sh.set hni).2 h) fuel done a w (Region.free_spec ho hfr) (by simpa using hr) (closed_of hcl)
    (.inl ⟨wants_sound hf hw, fun w' hS' => hy n D a w' hf hS'⟩) hS ?_
  rw [hdone, hd]
  exact h hm _ _ (hf.put hdn _) hp (by rw [← hdone]; exact (Sh.set hni).2 hS)
/-- An operation that reads no memory. -/
theorem sxb_takeP {fuel : Nat} {done done' : Array Bool} (i : Nat) {o : Oper} {d : Nat} (V : Value) (ho : ops[i]? = some o) (hd : o.dst = some d) (hdn : Nat.blt d n = true) (hw : wants ops l o = some true)
    (hca : calmA ops = true) (hs : Region.noSelect ops = true) (hfr : Region.free .any ops done i = true) (hr : (Region.ready .any ops done).contains i = true) (hcl : closedB ops done = true) (hni : ps.contains i = false) (hdone : done.setIfInBounds i true = done')
    (hy : Yv P l [] [] o V) (h : SXB P ro ps n D M0 w0 (noPanic Q) ops Bs Fs fuel done' ((d, V) :: l) B R F m r) : SXB P ro ps n D M0 w0 (noPanic Q) ops Bs Fs (fuel + 1) done l B R F m r := by
  intro hm a w hf hp hS
  refine anyK_first (S := Sh ps Bs Fs) (T := fun _ => True) (v := V) ho hca (Region.noSelect_spec hs) (fun c a w h => h) (fun _ _ _ _ _ => trivial) (fun _ _ h => (Sh.set hni).1 h) (fun _ _ h => (Sh.set hni).2 h) fuel done a w (Region.free_spec ho hfr) (by simpa using hr) (closed_of hcl)
    (.inl ⟨wants_sound hf hw, fun w' _ => hy n D a w' hf ⟨by simp, by simp⟩⟩) hS ?_
  rw [hdone, hd]
  exact h hm _ _ (hf.put hdn _) hp (by rw [← hdone]; exact (Sh.set hni).2 hS)
theorem sxb_skip {fuel : Nat} {done done' : Array Bool} (i : Nat) {o : Oper} {d : Nat} (ho : ops[i]? = some o) (hd : o.dst = some d) (hdn : Nat.blt d n = true) (hw : wants ops l o = some false)
    (hca : calmA ops = true) (hs : Region.noSelect ops = true) (hfr : Region.free .any ops done i = true) (hr : (Region.ready .any ops done).contains i = true) (hcl : closedB ops done = true) (hni : ps.contains i = false) (hdone : done.setIfInBounds i true = done')
    (h : SXB P ro ps n D M0 w0 (noPanic Q) ops Bs Fs fuel done' ((d, undef) :: l) B R F m r) : SXB P ro ps n D M0 w0 (noPanic Q) ops Bs Fs (fuel + 1) done l B R F m r := by
  intro hm a w hf hp hS
  refine anyK_first (S := Sh ps Bs Fs) (T := fun _ => True) (v := undef) ho hca (Region.noSelect_spec hs) (fun c a w h => h) (fun _ _ _ _ _ => trivial) (fun _ _ h => (Sh.set hni).1 h) (fun _ _ h => (Sh.set hni).2 h) fuel done a w (Region.free_spec ho hfr) (by simpa using hr) (closed_of hcl)
    (.inr ⟨wants_sound hf hw, rfl⟩) hS ?_
  rw [hdone, hd]
  exact h hm _ _ (hf.put hdn _) hp (by rw [← hdone]; exact (Sh.set hni).2 hS)
theorem sxb_if {fuel : Nat} {done : Array Bool} {c : Bool} {m1 m2 : Option ρ} (h1 : c = true → SXB P ro ps n D M0 w0 Q ops Bs Fs fuel done l B R F m1 r) (h2 : c = false → SXB P ro ps n D M0 w0 Q ops Bs Fs fuel done l B R F m2 r) :
    SXB P ro ps n D M0 w0 Q ops Bs Fs fuel done l B R F (if c then m1 else m2) r := by
  intro hm
  cases c
  · exact h2 rfl (by simpa using hm)
  · exact h1 rfl (by simpa using hm)
theorem sxb_again {fuel : Nat} {done : Array Bool} {d : Nat} {u v : Value} (hu : look l d = some u) (he : u = v) (h : SXB P ro ps n D M0 w0 Q ops Bs Fs fuel done ((d, v) :: l) B R F m r) : SXB P ro ps n D M0 w0 Q ops Bs Fs fuel done l B R F m r :=
  fun hm a w hf hp hS => h hm a w (hf.again hu he) hp hS
theorem sxb_done {fuel : Nat} {done : Array Bool} (hr : Region.ready .any ops done = []) (h : SXQ n D M0 w0 Q .normal l B R F m r) : SXB P ro ps n D M0 w0 Q ops Bs Fs fuel done l B R F m r :=
  fun hm a w hf hp _ => by
    have h1 := h hm a w hf hp
    cases fuel with
    | zero => exact ⟨hr, h1⟩
    | succ fuel => exact ⟨fun _ => h1, by rw [hr]; simp⟩
/-- Just one can come up: it is carried out. -/
theorem sxb_step {fuel : Nat} {done done' : Array Bool} (i : Nat) {o : Oper} (ho : ops[i]? = some o) (hr : Region.ready .any ops done = [i]) (hdone : done.setIfInBounds i true = done')
    (h : SXO P ro n D M0 w0 (Exit.then (fun a w => Sh ps Bs Fs done' w ∧ anyK ro P ops Q (Sh ps Bs Fs) fuel done' a w) Q) ops [o] l B R F m r) : SXB P ro ps n D M0 w0 Q ops Bs Fs (fuel + 1) done l B R F m r := by
  intro hm a w hf hp hS
  refine ⟨fun h0 => (by rw [hr] at h0; cases h0), fun j hj => ?_⟩
  rw [hr] at hj
  simp only [List.mem_singleton] at hj
  subst hj
  have h1 := h hm a w hf hp
  rw [hdone]
  unfold gwpList wpListIn at h1
  unfold opK wpOpIn
  simp only [ho]
  split
  · rename_i hw
    rw [if_pos hw] at h1
    refine ⟨fun _ _ => trivial, ?_⟩
    exact Oper.uponIn_mono (fun a w h => h) (fun c a w h => h) (fun h => h) _ h1.2
  · rename_i hw
    rw [if_neg hw] at h1
    exact ⟨fun _ _ => trivial, h1.2⟩
/-- Behind a step: what is to stay stays. -/
theorem sxq_anyB {fuel : Nat} {done : Array Bool} {K : Exit → Act → World → Prop} (hB : Pick B Bs) (hF : ∀ φ ∈ Fs, φ ∈ F ∨ ∃ rd ∈ R, ∀ w, Cells rd.v rd.n rd.size rd.cs w → φ w) (h : SXB P ro ps n D M0 w0 Q ops Bs Fs fuel done l B R F m r) :
    SXQ n D M0 w0 (Exit.then (fun a w => Sh ps Bs Fs done w ∧ anyK ro P ops Q (Sh ps Bs Fs) fuel done a w) K) .normal l B R F m r :=
  fun hm a w hf hp => ⟨fun _ => stay_of2 hp hB hF, h hm a w hf hp (fun _ => stay_of2 hp hB hF)⟩
/-- Behind a writer: nothing is asked. -/
theorem sxq_anyW {fuel : Nat} {done : Array Bool} {K : Exit → Act → World → Prop} (p : Nat) (hp : ps.contains p = true) (hd : done.getD p true = true) (h : SXB P ro ps n D M0 w0 Q ops Bs Fs fuel done l B R F m r) :
    SXQ n D M0 w0 (Exit.then (fun a w => Sh ps Bs Fs done w ∧ anyK ro P ops Q (Sh ps Bs Fs) fuel done a w) K) .normal l B R F m r := by
  have hv : ∀ w, Sh ps Bs Fs done w := fun w h => by
    have := h p (by simpa using hp)
    rw [hd] at this
    cases this
  exact fun hm a w hf hpp => ⟨hv w, h hm a w hf hpp (hv w)⟩
/-! ### Owned rows in such a region -/
theorem sxc_idxO {x : Code} {α : Type} {enc : α → List Value} {e size : Nat} {xs : List α} {k : α → Option ρ} {i : Int} {ao : Option Addr} {c j : Nat} (hR : R[j]? = some (Ro enc e size (.slice ao xs.length c) xs))
    (h : ∀ y, idx xs i = some y → ∀ g, ao = some ⟨g, 0, none⟩ → SXC P ro n D M0 w0 Q x l B R F (k y) r) :
    SXC P ro n D M0 w0 Q x l B R F ((idx xs i).bind k) r := by
  intro hm a w hf hp
  cases hq : idx xs i with
  | none => rw [hq] at hm; simp at hm
  | some y =>
    rw [hq] at hm
    have hm' : k y = some r := by simpa using hm
    obtain ⟨_, hlt, _⟩ := idx_get hq
    have hown := hp.row _ (List.mem_of_getElem? hR)
    rcases hown.2 with ⟨h5, h6⟩ | ⟨g, cap, cur, h5, _⟩
    · have h6' : xs.length = 0 := h6
      omega
    · have h5' : Value.slice ao xs.length c = .slice (some ⟨g, 0, none⟩) xs.length cap := h5
      simp only [Value.slice.injEq] at h5'
      exact h y hq g h5'.1 hm' a w hf hp
theorem at_row {α : Type} {enc : α → List Value} {size : Nat} {xs : List α} {i : Int} {y : α} {g c e : Nat} {ao : Option Addr} (henc : EncOk enc size) (hy : idx xs i = some y) (ha : ao = some ⟨g, 0, none⟩) :
    ∀ w, Cells (Ro enc e size (.slice ao xs.length c) xs).v (Ro enc e size (.slice ao xs.length c) xs).n (Ro enc e size (.slice ao xs.length c) xs).size (Ro enc e size (.slice ao xs.length c) xs).cs w → CellsAt g (i.toNat * size) (enc y) w := by
  intro w h jj u hj
  obtain ⟨⟨ao', cap', hv', _, _, _, hc'⟩, _⟩ := (h : Cells (.slice ao xs.length c) xs.length size (xs.flatMap enc) w)
  have hv2 : Value.slice ao xs.length c = .slice ao' xs.length cap' := hv'
  simp only [Value.slice.injEq] at hv2
  obtain ⟨rfl, -, -⟩ := hv2
  obtain ⟨_, _, hget⟩ := idx_get hy
  obtain ⟨ad', h3, h4⟩ := hc' (i.toNat * size + jj) u (flatMap_get henc xs i.toNat y jj u hget hj)
  rw [ha] at h3
  simp only [Option.some.injEq] at h3
  subst h3
  rw [← h4]
  simp
theorem yv_idxO {x ix : Operand} {ki : IntKind} {i : Int} {b0 k c d : Nat} {t' e t : TypeId} {agg : Bool} {z : Value} {size bytes : Nat} {pos : String} {af : Array Edge} {gd : Option (Nat × Bool)} (ht : P.underlying t' = some (.slice e)) (hT : TyF P e agg z size bytes) (hx : ev l x = some (.slice (some ⟨b0, 0, none⟩) k c)) (hi : ev l ix = some (.int ki i)) (h0 : 0 ≤ i) (hlt : i < (k : Int)) :
    Yv P l B F ⟨some d, .indexAddr t' x ix, t, pos, af, gd⟩ (.pointer (some ⟨b0, i.toNat * size, none⟩)) := by
  have := yv_idx (B := B) (F := F) (d := some d) (t := t) (pos := pos) (af := af) (gd := gd) ht hT hx hi h0 hlt
  rw [Nat.zero_add] at this
  exact this
theorem own_of {ao : Option Addr} {g k c : Nat} (ha : ao = some ⟨g, 0, none⟩) : (Value.slice ao k c).ownBlock = some g := by rw [ha]; rfl
/-! ### A store into an owned row -/
variable {t : TypeId} {pos : String} {af : Array Edge} {gd : Option (Nat × Bool)}
theorem sxo_storeL {α : Type} {enc : α → List Value} {xs : List α} {x y : Operand} {t' e : TypeId} {agg : Bool} {z : Value} {size bytes j g i c : Nat} {ao : Option Addr} {V : Value} {y' : α} {k : List α → Option ρ} (henc : EncOk enc size) (hw : wants ops l ⟨none, .store t' x y, t, pos, af, gd⟩ = some true)
    (hx : ev l x = some (.pointer (some ⟨g, i * size, none⟩))) (hy : ev l y = some V) (hT : TyF P t' agg z size bytes)
    (hR : R[j]? = some (Ro enc e size (.slice ao xs.length c) xs)) (hg : (Value.slice ao xs.length c).ownBlock = some g) (hi : i < xs.length) (hV : V.cells.toList = enc y')
    (h : ∀ ys, xs.set i y' = ys → Value.slice ao xs.length c = .slice ao ys.length c → SXO P ro n D M0 w0 Q ops rest l B (Ro enc e size (.slice ao ys.length c) ys :: R.eraseIdx j) F (k ys) r) :
    SXO P ro n D M0 w0 Q ops (⟨none, .store t' x y, t, pos, af, gd⟩ :: rest) l B R F (lett (xs.set i y') k) r := by
  have hl : (xs.set i y').length = xs.length := List.length_set
  have hv : Value.slice ao xs.length c = .slice ao (xs.set i y').length c := by rw [hl]
  have h1 := h _ rfl hv
  rw [← hv] at h1
  exact sxo_storeR henc hw hx hy hT hR hg hi hV h1
theorem sxo_blkAgain {i g e : Nat} {cs cs' : List Value} (hB : B[i]? = some ⟨g, e, cs⟩) (he : cs = cs') (h : SXO P ro n D M0 w0 Q ops rest l (B.set i ⟨g, e, cs'⟩) R F m r) : SXO P ro n D M0 w0 Q ops rest l B R F m r := by
  subst he
  have : B.set i ⟨g, e, cs⟩ = B := by
    apply List.ext_getElem?
    intro j
    rw [List.getElem?_set]
    split
    · rename_i hij; subst hij; split
      · exact hB.symm
      · rename_i h2; simp at h2; simp [h2]
    · rfl
  rw [this] at h
  exact h
/-! ### Is a slice nil? -/
theorem run_equal_nil {P : Program} {t e : TypeId} (ht : P.underlying t = some (.slice e)) (ao : Option Addr) (k c : Nat) (w : World) : (Op.equal t (.slice ao k c) (.slice none 0 0)).run P w = .ok ao.isNone w := by
  have : ∀ d, (Op.equalIn (d + 1) t (.slice ao k c) (.slice none 0 0)).run P w = .ok ao.isNone w := fun d => by
    unfold Op.equalIn
    rw [Sem.run_bind, run_underlying ht]
    cases ao <;> rfl
  exact this 9999
theorem sxo_eqnil {x y : Operand} {xt yt e : TypeId} {ao : Option Addr} {k c d : Nat} (hw : wants ops l ⟨some d, .binOp .eql xt x y yt, t, pos, af, gd⟩ = some true) (ht : P.underlying xt = some (.slice e)) (hx : ev l x = some (.slice ao k c)) (hy : ev l y = some (.slice none 0 0)) (hd : Nat.blt d n = true)
    (h : SXO P ro n D M0 w0 Q ops rest ((d, .bool ao.isNone) :: l) B R F m r) : SXO P ro n D M0 w0 Q ops (⟨some d, .binOp .eql xt x y yt, t, pos, af, gd⟩ :: rest) l B R F m r :=
  sxo_val (.bool ao.isNone) hw rfl hd (fun a w hf _ => by
    have h1 := hf.ev hx
    have h2 := hf.ev hy
    have he := run_equal_nil ht ao k c w
    generalize a.eval = e at h1 h2 ⊢
    generalize hq : Op.equal xt (.slice ao k c) (.slice none 0 0) = q at he
    simp [execOp, h1, h2, eqGuard, binOp, hq, he, go_sem]) h
/-- A nil slice has no elements. -/
theorem sxc_nilx {x : Code} {α : Type} {enc : α → List Value} {size c : Nat} {xs : List α} {ao : Option Addr} (j : Nat) (henc : EncOk enc size) (hs : size ≠ 0) (hF : F[j]? = some (Sl enc size (.slice ao xs.length c) xs)) (ha : ao.isNone = true)
    (h : xs = [] → SXC P ro n D M0 w0 Q x l B R F m r) : SXC P ro n D M0 w0 Q x l B R F m r := by
  intro hm a w hf hp
  refine h ?_ hm a w hf hp
  have hnec := hp.per _ (List.mem_of_getElem? hF)
  obtain ⟨⟨ao', cap, hv, _, _, _, hc⟩, hlen⟩ := (hnec.here : Cells (.slice ao xs.length c) xs.length size (xs.flatMap enc) w)
  cases xs with
  | nil => rfl
  | cons y ys =>
    have hne : 0 < ((y :: ys).flatMap enc).length := by
      have := henc.len y
      simp only [List.flatMap_cons, List.length_append]
      omega
    obtain ⟨ad, h1, _⟩ := hc 0 _ (List.getElem?_eq_getElem hne)
    simp only [Value.slice.injEq] at hv
    obtain ⟨rfl, _, _⟩ := hv
    rw [h1] at ha
    simp at ha
/-! ### A letter of a string's table -/
theorem sxo_indexS {x ix : Operand} {xt : TypeId} {s : ByteArray} {ki : IntKind} {i : Int} {d : Nat} {k : Int → Option ρ} {xs : List Int} (hw : wants ops l ⟨some d, .index xt x ix, t, pos, af, gd⟩ = some true) (ht : P.underlying xt = some .string) (hx : ev l x = some (.string s)) (hi : ev l ix = some (.int ki i)) (hs : s.data.toList.map (fun b => (b.toNat : Int)) = xs) (hd : Nat.blt d n = true)
    (h : ∀ y, idx xs i = some y → SXO P ro n D M0 w0 Q ops rest ((d, .int .u8 y) :: l) B R F (k y) r) :
    SXO P ro n D M0 w0 Q ops (⟨some d, .index xt x ix, t, pos, af, gd⟩ :: rest) l B R F ((idx xs i).bind k) r := by
  refine sxo_gen hw fun hm a w hf hp => ?_
  cases hq : idx xs i with
  | none => rw [hq] at hm; simp at hm
  | some y =>
    rw [hq] at hm
    have hm' : k y = some r := by simpa using hm
    obtain ⟨h0, hlt, hy⟩ := idx_get hq
    obtain ⟨I, rfl⟩ := Int.eq_ofNat_of_zero_le h0
    have hy' : xs[I]? = some y := hy
    rw [← hs, List.getElem?_map] at hy'
    cases hb : s.data.toList[I]? with
    | none => rw [hb] at hy'; simp at hy'
    | some b =>
      rw [hb] at hy'
      simp only [Option.map_some, Option.some.injEq] at hy'
      have hb' : s[I]? = some b := by
        have h1 := (List.getElem?_eq_some_iff.1 hb)
        obtain ⟨h2, h3⟩ := h1
        have h4 : I < s.size := by rw [Array.length_toList] at h2; exact h2
        rw [getElem?_pos s I h4]
        exact congrArg some h3
      refine ⟨.int .u8 y, w, ?_, h y hq hm' _ _ (hf.put hd _) hp⟩
      have h1 := hf.ev hx
      have h2 := hf.ev hi
      generalize a.eval = ε at h1 h2 ⊢
      simp [execOp, h1, h2, Instr.index, asIntOf, run_underlying ht, hb', hy']
/-! ### min, max -/
def imin (a b : Int) : Int := if b < a then b else a
def imax (a b : Int) : Int := if a < b then b else a
theorem yv_min {x y : Operand} {k : IntKind} {a b : Int} {tys : Array TypeId} {d : Option Tmp} (hx : ev l x = some (.int k a)) (hy : ev l y = some (.int k b)) : Yv P l B F ⟨d, .call ⟨.builtin .min, #[x, y], tys⟩, t, pos, af, gd⟩ (.int k (imin a b)) := fun n D ac w hf _ => by
  have h1 := hf.ev hx
  have h2 := hf.ev hy
  generalize ac.eval = e at h1 h2 ⊢
  simp [h1, h2, Builtin.min_, Builtin.min2, imin, go_sem]
theorem yv_max {x y : Operand} {k : IntKind} {a b : Int} {tys : Array TypeId} {d : Option Tmp} (hx : ev l x = some (.int k a)) (hy : ev l y = some (.int k b)) : Yv P l B F ⟨d, .call ⟨.builtin .max, #[x, y], tys⟩, t, pos, af, gd⟩ (.int k (imax a b)) := fun n D ac w hf _ => by
  have h1 := hf.ev hx
  have h2 := hf.ev hy
  generalize ac.eval = e at h1 h2 ⊢
  simp [h1, h2, Builtin.max_, Builtin.max2, imax, go_sem]
theorem sxo_min {x y : Operand} {k : IntKind} {a b : Int} {tys : Array TypeId} {d : Nat} (hw : wants ops l ⟨some d, .call ⟨.builtin .min, #[x, y], tys⟩, t, pos, af, gd⟩ = some true) (hx : ev l x = some (.int k a)) (hy : ev l y = some (.int k b)) (hd : Nat.blt d n = true)
    (h : SXO P ro n D M0 w0 Q ops rest ((d, .int k (imin a b)) :: l) B R F m r) : SXO P ro n D M0 w0 Q ops (⟨some d, .call ⟨.builtin .min, #[x, y], tys⟩, t, pos, af, gd⟩ :: rest) l B R F m r :=
  sxo_val _ hw rfl hd (fun a w hf _ => yv_min (B := []) (F := []) hx hy n D a w hf ⟨by simp, by simp⟩) h
theorem sxo_max {x y : Operand} {k : IntKind} {a b : Int} {tys : Array TypeId} {d : Nat} (hw : wants ops l ⟨some d, .call ⟨.builtin .max, #[x, y], tys⟩, t, pos, af, gd⟩ = some true) (hx : ev l x = some (.int k a)) (hy : ev l y = some (.int k b)) (hd : Nat.blt d n = true)
    (h : SXO P ro n D M0 w0 Q ops rest ((d, .int k (imax a b)) :: l) B R F m r) : SXO P ro n D M0 w0 Q ops (⟨some d, .call ⟨.builtin .max, #[x, y], tys⟩, t, pos, af, gd⟩ :: rest) l B R F m r :=
  sxo_val _ hw rfl hd (fun a w hf _ => yv_max (B := []) (F := []) hx hy n D a w hf ⟨by simp, by simp⟩) h
/-! ### Two may come up -/
theorem sxo_meq {m' : Option ρ} (h : m = m') (hs : SXO P ro n D M0 w0 Q ops rest l B R F m' r) : SXO P ro n D M0 w0 Q ops rest l B R F m r := h ▸ hs
theorem sxb_two {fuel : Nat} {done di dj : Array Bool} (i j : Nat) {oi oj : Oper} (hoi : ops[i]? = some oi) (hoj : ops[j]? = some oj) (hr : Region.ready .any ops done = [i, j]) (hdi : done.setIfInBounds i true = di) (hdj : done.setIfInBounds j true = dj)
    (h1 : SXO P ro n D M0 w0 (Exit.then (fun a w => Sh ps Bs Fs di w ∧ anyK ro P ops Q (Sh ps Bs Fs) fuel di a w) Q) ops [oi] l B R F m r)
    (h2 : SXO P ro n D M0 w0 (Exit.then (fun a w => Sh ps Bs Fs dj w ∧ anyK ro P ops Q (Sh ps Bs Fs) fuel dj a w) Q) ops [oj] l B R F m r) : SXB P ro ps n D M0 w0 Q ops Bs Fs (fuel + 1) done l B R F m r := by
  intro hm a w hf hp hS
  refine ⟨fun h0 => (by rw [hr] at h0; cases h0), fun q hq => ?_⟩
  have key : ∀ (q : Nat) (o : Oper) (d' : Array Bool), ops[q]? = some o → done.setIfInBounds q true = d' →
      SXO P ro n D M0 w0 (Exit.then (fun a w => Sh ps Bs Fs d' w ∧ anyK ro P ops Q (Sh ps Bs Fs) fuel d' a w) Q) ops [o] l B R F m r →
      opK ro P ops Q q (fun a' w' => Sh ps Bs Fs (done.setIfInBounds q true) w' ∧ anyK ro P ops Q (Sh ps Bs Fs) fuel (done.setIfInBounds q true) a' w') a w := by
    intro q o d' ho hd h
    have h1 := h hm a w hf hp
    rw [hd]
    unfold gwpList wpListIn at h1
    unfold opK wpOpIn
    simp only [ho]
    split
    · rename_i hw
      rw [if_pos hw] at h1
      refine ⟨fun _ _ => trivial, ?_⟩
      exact Oper.uponIn_mono (fun a w h => h) (fun c a w h => h) (fun h => h) _ h1.2
    · rename_i hw
      rw [if_neg hw] at h1
      exact ⟨fun _ _ => trivial, h1.2⟩
  rw [hr] at hq
  rcases List.mem_cons.1 hq with rfl | hq
  · exact key _ _ _ hoi hdi h1
  · rcases List.mem_cons.1 hq with rfl | hq
    · exact key _ _ _ hoj hdj h2
    · cases hq
/-! ### A part of a slice, in such a region -/
def cutv (ao : Option Addr) (c size : Nat) (L H : Int) : Value := .slice (if c = L.toNat then ao else ao.map (·.add (L.toNat * size))) (H.toNat - L.toNat) (c - L.toNat)
theorem sub_spec {α : Type} {xs ys : List α} {li hj : Int} (h : sub xs li hj = some ys) : 0 ≤ li ∧ li ≤ hj ∧ hj ≤ xs.length ∧ ys = (xs.take hj.toNat).drop li.toNat := by
  unfold sub at h
  split at h
  · rename_i hb
    simp only [Option.some.injEq] at h
    exact ⟨hb.1, hb.2.1, hb.2.2, h.symm⟩
  · simp at h
theorem sxc_cutH {x : Code} {α : Type} {enc : α → List Value} {size c : Nat} {xs : List α} {k : List α → Option ρ} {li hj : Int} {ao : Option Addr} (j : Nat) (henc : EncOk enc size) (hF : F[j]? = some (Sl enc size (.slice ao xs.length c) xs))
    (h : ∀ ys, sub xs li hj = some ys → ∀ a' c', cutv ao c size li hj = .slice a' ys.length c' → xs.length ≤ c → SXC P ro n D M0 w0 Q x l B R (Sl enc size (.slice a' ys.length c') ys :: F) (k ys) r) :
    SXC P ro n D M0 w0 Q x l B R F ((sub xs li hj).bind k) r := by
  intro hm a w hf hp
  cases hq : sub xs li hj with
  | none => rw [hq] at hm; simp at hm
  | some ys =>
    rw [hq] at hm
    have hm' : k ys = some r := by simpa using hm
    obtain ⟨b1, b2, b3, rfl⟩ := sub_spec hq
    obtain ⟨L, rfl⟩ := Int.eq_ofNat_of_zero_le b1
    obtain ⟨H, rfl⟩ := Int.eq_ofNat_of_zero_le (Int.le_trans b1 b2)
    have b2' : L ≤ H := by omega
    have b3' : H ≤ xs.length := by omega
    have hnec := hp.per _ (List.mem_of_getElem? hF)
    have hcap : xs.length ≤ c := by
      obtain ⟨⟨a1, c1, hv1, hn1, _⟩, _⟩ := (hnec.here : Cells (.slice ao xs.length c) xs.length size (xs.flatMap enc) w)
      simp only [Value.slice.injEq] at hv1
      omega
    have hl : ((xs.take H).drop L).length = H - L := by simp; omega
    refine h _ hq (if c = L then ao else ao.map (·.add (L * size))) (c - L) (by rw [cutv]; simp only [Int.toNat_natCast, hl]) hcap hm' _ _ hf (hp.addFact ?_)
    intro w' hk'
    obtain ⟨a2, c2, hv2, hc2⟩ := Cells.cut (hnec w' hk' : Cells (.slice ao xs.length c) xs.length size (xs.flatMap enc) w') b2' b3'
    simp only [Value.slice.injEq] at hv2
    obtain ⟨rfl, -, rfl⟩ := hv2
    show Cells (.slice _ ((xs.take H).drop L).length _) ((xs.take H).drop L).length size (((xs.take H).drop L).flatMap enc) w'
    rw [hl, flatMap_drop henc, flatMap_take henc]
    exact hc2
/-- An owned row that is only read from here on. -/
theorem sxc_freeze {c : Code} {α : Type} {enc : α → List Value} {v : Value} {e size : Nat} {xs : List α} (i : Nat) (hR : R[i]? = some (Ro enc e size v xs)) (h : SXC P ro n D M0 w0 Q c l B (R.eraseIdx i) (Sl enc size v xs :: F) m r) : SXC P ro n D M0 w0 Q c l B R F m r :=
  fun hm a w hf hp => h hm a w hf (hp.freeze hR)
theorem sxq_freeze {ex : Exit} {α : Type} {enc : α → List Value} {v : Value} {e size : Nat} {xs : List α} (i : Nat) (hR : R[i]? = some (Ro enc e size v xs)) (h : SXQ n D M0 w0 Q ex l B (R.eraseIdx i) (Sl enc size v xs :: F) m r) : SXQ n D M0 w0 Q ex l B R F m r :=
  fun hm a w hf hp => h hm a w hf (hp.freeze hR)
theorem yv_cut {α : Type} {xs ys : List α} {x : Operand} {lo hi : Option Operand} {li hj : Int} {ao : Option Addr} {c d : Nat} {V : Value} {t' e : TypeId} {agg : Bool} {z : Value} {size bytes : Nat} (ht : P.underlying t' = some (.slice e)) (hT : TyF P e agg z size bytes)
    (hx : ev l x = some (.slice ao xs.length c)) (hlo : evOpt l lo 0 = some li) (hhi : evOpt l hi (xs.length : Int) = some hj) (hs : sub xs li hj = some ys) (hcap : xs.length ≤ c) (hv : cutv ao c size li hj = V) :
    Yv P l B F ⟨some d, .slice t' x lo hi none, t, pos, af, gd⟩ V := by
  intro n D a w hf _
  obtain ⟨b1, b2, b3, _⟩ := sub_spec hs
  obtain ⟨L, rfl⟩ := Int.eq_ofNat_of_zero_le b1
  obtain ⟨H, rfl⟩ := Int.eq_ofNat_of_zero_le (Int.le_trans b1 b2)
  have b2' : L ≤ H := by omega
  have b3' : H ≤ xs.length := by omega
  subst hv
  have h1 := hf.ev hx
  have e1 := evOpt_run hf hlo
  have e2 := evOpt_run hf hhi
  have hb1 : (H : Int) ≤ (c : Int) := by omega
  have hb0 : (0 : Int) ≤ (H : Int) := by omega
  have hb2 : (L : Int) ≤ (H : Int) := by omega
  have hb3 : (0 : Int) ≤ (L : Int) := by omega
  have hn1 : H ≤ c := by omega
  generalize hε : a.eval = ε at h1 e1 e2 ⊢
  rcases e1 with ⟨k1, e1⟩ | ⟨rfl, e1⟩ <;> rcases e2 with ⟨k2, e2⟩ | ⟨rfl, e2⟩
  · simp [execOp, h1, e1, e2, Instr.sliceAt, Instr.slice, Instr.sliceBounds, Instr.sliceBound, asIntOf, run_underlying ht, hT.run_size, hb0, hb3, hn1, b2', cutv]
  · have : H = xs.length := by omega
    subst this
    simp [execOp, h1, e1, Instr.sliceAt, Instr.slice, Instr.sliceBounds, Instr.sliceBound, asIntOf, run_underlying ht, hT.run_size, hb3, b2', cutv]
  · have : L = 0 := by omega
    subst this
    simp [execOp, h1, e2, Instr.sliceAt, Instr.slice, Instr.sliceBounds, Instr.sliceBound, asIntOf, run_underlying ht, hT.run_size, hb0, hn1, cutv]
  · have : H = xs.length := by omega
    subst this
    have : L = 0 := by omega
    subst this
    simp [execOp, h1, Instr.sliceAt, Instr.slice, Instr.sliceBounds, run_underlying ht, hT.run_size, cutv]
end
end SX

namespace SX
open Go Go.ChangeShapes Go.WideShapes Go.ChangeAt Go.RowKit

variable {H : Type} {enc : TypeId × Value → H} {P : Program}
theorem trodAll_stays (hl : laidOutB P = true) {W W' : World} (hb : Below W.heap.size W W') {sp : Nat → Bool} : ∀ {ts : List TypeId} {vs : List Value} {ds : List (DataW H)} {ps : List MemPlace},
    (ts.all fun t => P.readableRec t && Nat.blt t P.types.size) = true → DataW.TrodAll enc P W 0 (fun _ => true) true ts vs ds ps → (∀ x ∈ ps, x.block < W.heap.size) → (∀ x ∈ ps, sp x.block = true) →
    DataW.TrodAll enc P W' 0 sp true ts vs ds ps
  | [], vs, ds, ps, _, h, _, _ => by
    obtain ⟨rfl, rfl, rfl⟩ := trodAll_nil h
    exact h
  | t :: ts, vs, ds, ps, hts, h, hlt, hsp => by
    obtain ⟨v, vs', d, ds', p, q, rfl, rfl, rfl, h1, h2⟩ := trodAll_cons h
    simp only [List.all_cons, Bool.and_eq_true] at hts
    have hrow : t < P.types.size := by simpa using hts.1.2
    exact ⟨p, q, WideElems.Trod_stays hl hts.1.1 hrow h1 (fun x hx => hb.same (hlt x (List.mem_append.2 (.inl hx)))) (fun x hx => hsp x (List.mem_append.2 (.inl hx))),
      trodAll_stays hl hb (by simpa using hts.2) h2 (fun x hx => hlt x (List.mem_append.2 (.inr hx))) (fun x hx => hsp x (List.mem_append.2 (.inr hx))), rfl⟩
theorem nec_cells {W : World} {v : Value} {n size : Nat} {cs : List Value} (h : Cells v n size cs W) (hb : ∀ a len cap, v = .slice (some a) len cap → cs ≠ [] → a.block < W.heap.size) : Nec W [] (Cells v n size cs) := by
  intro w' hk
  obtain ⟨⟨a, cap, rfl, h1, h2, h3, h4⟩, hl⟩ := h
  refine ⟨⟨a, cap, rfl, h1, h2, h3, fun j u hj => ?_⟩, hl⟩
  obtain ⟨ad, rfl, hc⟩ := h4 j u hj
  refine ⟨ad, rfl, ?_⟩
  have hlt := hb ad n cap rfl (by rintro rfl; simp at hj)
  have := hk.block ad.block hlt (by simp)
  unfold World.cell? at hc ⊢
  simp only at hc ⊢
  rw [this]
  exact hc
/-- An argument that is a slice of integers. -/
theorem arg_ints {W : World} {base : Nat} {t e : TypeId} {k : IntKind} {v : Value} {d : DataW H} {p : List MemPlace} (ht : P.underlying t = some (.slice e)) (he : P.underlying e = some (.int k)) (hc : P.cellsOf e = 1)
    (hval : Value.okWide P W .any base t v) (h : DataW.Trod enc P W 0 (fun _ => true) true t v d p) :
    ∃ (a : Option Addr) (cap : Nat) (xs : List Int), v = .slice a xs.length cap ∧ Nec W [] (Sl (eI k) 1 v xs) ∧ (∀ n ∈ xs, (Lit.int k n).wf = true) ∧ xs.length ≤ maxLen := by
  obtain ⟨a0, len0, cap0, rfl⟩ := okWide_slice ht hval
  obtain ⟨fuel, hf⟩ := h
  rcases open_ints ht he hc hf with ⟨hcs, hx⟩ | ⟨a, len, cap, zs, hcs, _, hle, hmax, hlen, hx, hcell, hwf⟩
  · simp [Value.cells] at hcs
    obtain ⟨rfl, rfl, rfl⟩ := hcs
    refine ⟨none, 0, [], rfl, nec_cells ⟨⟨none, 0, rfl, Nat.le_refl _, by simp, by simp, fun j u hj => by simp at hj⟩, by simp⟩ (by simp), by simp, by simp⟩
  · simp [Value.cells] at hcs
    obtain ⟨rfl, rfl, rfl⟩ := hcs
    simp only [if_true] at hlen
    have hspot : a.spot = none := by
      have hv : Cell.okWide P W .any base t (.slice (some a) len0 cap0) := by
        unfold Value.okWide at hval
        rw [ht] at hval
        exact hval
      unfold Cell.okWide Cell.ok at hv
      rw [ht] at hv
      simp only at hv
      exact hv.2.2.2.1
    have hL : (zs.take len0).length = len0 := by rw [List.length_take]; omega
    refine ⟨some a, cap0, zs.take len0, by rw [hL], ?_, fun n hn => hwf n (List.mem_of_mem_take hn), by rw [hL]; omega⟩
    have hfm : ∀ (l : List Int), l.flatMap (eI k) = l.map (fun x => Value.int k x) := by
      intro l
      induction l with
      | nil => rfl
      | cons x l ih => simp [eI, ih]
    have hcells : Cells (.slice (some a) len0 cap0) (zs.take len0).length 1 ((zs.take len0).flatMap (eI k)) W := by
      refine ⟨⟨some a, cap0, by rw [hL], by rw [hL]; exact hle, hmax, fun ad e => by cases e; exact hspot, fun j u hj => ⟨a, rfl, ?_⟩⟩, by rw [hfm]; simp⟩
      rw [hfm, List.getElem?_map] at hj
      cases hz : (zs.take len0)[j]? with
      | none => rw [hz] at hj; simp at hj
      | some x =>
        rw [hz] at hj
        simp only [Option.map_some, Option.some.injEq] at hj
        subst hj
        have hj1 := (List.getElem?_eq_some_iff.1 hz).1
        have hj2 : j < zs.length := by rw [List.length_take] at hj1; omega
        have := hcell j hj2
        have hx : zs.getD j 0 = x := by
          rw [List.getElem?_take_of_lt (by rw [List.length_take] at hj1; omega)] at hz
          simp [List.getD, hz]
        rw [hx] at this
        rw [← this]
        congr 1
        unfold Addr.add
        cases a
        simp only at hspot
        subst hspot
        split
        · rename_i h0; subst h0; rfl
        · rfl
    refine nec_cells hcells fun ad l c e hne => ?_
    cases e
    cases hz : zs with
    | nil => rw [hz] at hne; simp at hne
    | cons z zs' =>
      have := hcell 0 (by rw [hz]; simp)
      have h0 : a.add 0 = a := by simp [Addr.add]
      rw [h0] at this
      unfold World.cell? at this
      cases hh : W.heap[a.block]? with
      | none => rw [hh] at this; simp at this
      | some o => exact (Array.getElem?_eq_some_iff.1 hh).1
theorem nec_nil {W : World} : ∀ ψ ∈ ([] : List (World → Prop)), Nec W [] ψ := by simp
theorem nec_cons {W : World} {φ : World → Prop} {Φ : List (World → Prop)} (h : Nec W [] φ) (hr : ∀ ψ ∈ Φ, Nec W [] ψ) : ∀ ψ ∈ φ :: Φ, Nec W [] ψ := by
  intro ψ hψ
  rcases List.mem_cons.1 hψ with rfl | hψ
  · exact h
  · exact hr ψ hψ
/-- A law's last step: it has returned true; what came in lies as it lay. -/
theorem law_post {f : Func} {s : ChangeSpec} {apart fresh : Bool} {W W' : World} {args : Array Value} {ds gs : List (DataW H)} {before : List MemPlace} {tb : TypeId}
    (hl : laidOutB P = true) (hts : (f.params.toList.all fun t => P.readableRec t && Nat.blt t P.types.size) = true) (hrt : f.resultTypes = #[tb]) (hb : P.underlying tb = some .bool) (hv : s.vars = [])
    (hW : DataW.Whole enc P f.params.toList s.vars apart W args.toList ds gs before) (hs : s.fn H (ds ++ gs) = { results := [.lit (.bool true)], args := ds }) (hk : Keeps [] W W') :
    s.post enc P f apart fresh false false W args (.bool true) W' := by
  have hlt := hW.lt
  have hW0 := hW
  obtain ⟨p, q, hA, hV, rfl, hfz, hnd⟩ := hW
  rw [hv] at hV
  obtain ⟨rfl, rfl⟩ := trodVars_none hV
  have hbl := hk.below
  refine ⟨ds, [], p ++ [], [], p, [], hW0, ?_, ?_, ?_, ?_, fun h => by cases h⟩
  · rw [hrt, hs]
    exact trodAll_mk1 (shut_bool hb true)
  · rw [hs]
    exact trodAll_stays hl hbl hts hA (fun x hx => hlt x (by simpa using hx)) (fun x hx => by simpa using hlt x (by simpa using hx))
  · rw [hv, hs]
    trivial
  · exact hbl.frame _
end SX

namespace SX
open Go

/-! ### An array in a block, as a row of its own -/
section hp
variable {M0 : List Nat} {w0 w : World} {B : List BlkD} {R : List RowD} {F : List (World → Prop)}
theorem Hp.permM {B' : List BlkD} {R' : List RowD} (h : Hp M0 w0 w B R F) (hb : ∀ b ∈ B', b.is w) (hr : ∀ r ∈ R', r.own w) (hp : (muts B R).Perm (muts B' R')) : Hp M0 w0 w B' R' F :=
  { keep := h.keep, blk := hb, row := hr, nodup := hp.nodup_iff.1 h.nodup, fresh := fun g hg => h.fresh g (hp.mem_iff.2 hg), per := fun φ hφ => (h.per φ hφ).less (fun _ hk => hp.mem_iff.2 hk) }
theorem eraseIdx_perm {α β : Type} {f : α → β} {xs : List α} {i : Nat} {x : α} (hi : xs[i]? = some x) : (xs.map f).Perm (f x :: (xs.eraseIdx i).map f) := by
  obtain ⟨A, C, rfl, he⟩ := split_at hi
  rw [he]
  simp only [List.map_append, List.map_cons]
  exact List.perm_middle
theorem filter_perm {xs : List RowD} {i : Nat} {x : RowD} {g : Nat} (hi : xs[i]? = some x) (hx : x.v.ownBlock = some g) : (xs.filterMap (·.v.ownBlock)).Perm (g :: (xs.eraseIdx i).filterMap (·.v.ownBlock)) := by
  obtain ⟨A, C, rfl, he⟩ := split_at hi
  rw [he]
  simp only [List.filterMap_append, List.filterMap_cons, hx]
  exact List.perm_middle
theorem Hp.b2r {α : Type} {enc : α → List Value} {size i g e k : Nat} {xs : List α} (henc : EncOk enc size) (h : Hp M0 w0 w B R F) (hi : B[i]? = some ⟨g, e, xs.flatMap enc⟩) (hn : xs.length = k) (hk : k ≤ maxLen) :
    Hp M0 w0 w (B.eraseIdx i) (Ro enc e size (.slice (some ⟨g, 0, none⟩) xs.length k) xs :: R) F := by
  refine h.permM (fun b hb => h.blk b (List.mem_of_mem_eraseIdx hb)) (fun r hr => ?_) ?_
  · rcases List.mem_cons.1 hr with rfl | hr
    · have hb : w.heap[g]? = some (.cells (xs.flatMap enc).toArray e (0, 0)) := h.blk _ (List.mem_of_getElem? hi)
      refine ⟨flatMap_len henc xs, .inr ⟨g, k, (xs.flatMap enc).toArray, rfl, Nat.zero_le _, hb, ?_, hk, ?_, ?_⟩⟩
      · show xs.length ≤ k; omega
      · show (xs.flatMap enc).toArray.size = k * size
        rw [List.size_toArray, flatMap_len henc xs, hn]
      · show (xs.flatMap enc).toArray.toList.take (xs.length * size) = xs.flatMap enc
        rw [List.take_of_length_le]
        have := flatMap_len henc xs
        show (xs.flatMap enc).length ≤ xs.length * size
        omega
    · exact h.row r hr
  · have h1 := eraseIdx_perm (f := fun b : BlkD => b.g) hi
    unfold muts
    refine (h1.append_right _).trans ?_
    exact (List.perm_middle (l₁ := (B.eraseIdx i).map (·.g)) (l₂ := R.filterMap (·.v.ownBlock)) (a := g)).symm
theorem Hp.r2b {α : Type} {enc : α → List Value} {size j g e k : Nat} {xs : List α} (h : Hp M0 w0 w B R F) (hj : R[j]? = some (Ro enc e size (.slice (some ⟨g, 0, none⟩) xs.length k) xs)) (hn : xs.length = k) :
    Hp M0 w0 w (⟨g, e, xs.flatMap enc⟩ :: B) (R.eraseIdx j) F := by
  have hown := h.row _ (List.mem_of_getElem? hj)
  rcases hown.2 with ⟨h5, _⟩ | ⟨g', cap, cur, h5, _, hgg, _, _, hcs, htake⟩
  · have h5' : Value.slice (some ⟨g, 0, none⟩) xs.length k = .slice none 0 0 := h5
    simp at h5'
  · have h5' : Value.slice (some ⟨g, 0, none⟩) xs.length k = .slice (some ⟨g', 0, none⟩) xs.length cap := h5
    simp only [Value.slice.injEq, Option.some.injEq, Addr.mk.injEq, true_and, and_true] at h5'
    obtain ⟨rfl, rfl⟩ := h5'
    have hcs' : cur.size = k * size := hcs
    have htake' : cur.toList.take (xs.length * size) = xs.flatMap enc := htake
    have hgg' : w.heap[g]? = some (.cells cur e (0, 0)) := hgg
    have hcur : cur = (xs.flatMap enc).toArray := by
      rw [List.take_of_length_le (by rw [Array.length_toList, hcs', hn]; exact Nat.le_refl _)] at htake'
      rw [← htake']
    refine h.permM (fun b hb => ?_) (fun r hr => h.row r (List.mem_of_mem_eraseIdx hr)) ?_
    · rcases List.mem_cons.1 hb with rfl | hb
      · show w.heap[g]? = some (.cells (xs.flatMap enc).toArray e (0, 0))
        rw [← hcur]; exact hgg'
      · exact h.blk b hb
    · have h1 := filter_perm (g := g) hj rfl
      unfold muts
      refine (List.Perm.append_left _ h1).trans ?_
      exact List.perm_middle
end hp
section
variable {P : Program} {ro : Option Nat} {n : Nat} {D : List Deferred} {M0 : List Nat} {w0 : World} {Q : Exit → Act → World → Prop} {ops : Array Oper} {rest : List Oper} {l : Env} {B : List BlkD} {R : List RowD} {F : List (World → Prop)} {ρ : Type} {m : Option ρ} {r : ρ}
variable {d : Nat} {t t' e : TypeId} {pos : String} {af : Array Edge} {gd : Option (Nat × Bool)} {agg : Bool} {z : Value} {size bytes : Nat}
theorem sxo_b2r {α : Type} {enc : α → List Value} {i g k : Nat} {xs : List α} (henc : EncOk enc size) (hi : B[i]? = some ⟨g, e, xs.flatMap enc⟩) (hn : xs.length = k) (hk : Nat.ble k maxLen = true)
    (h : SXO P ro n D M0 w0 Q ops rest l (B.eraseIdx i) (Ro enc e size (.slice (some ⟨g, 0, none⟩) xs.length k) xs :: R) F m r) : SXO P ro n D M0 w0 Q ops rest l B R F m r :=
  fun hm a w hf hp => h hm a w hf (hp.b2r henc hi hn (Nat.le_of_ble_eq_true hk))
theorem sxo_r2b {α : Type} {enc : α → List Value} {j g k : Nat} {xs : List α} (hj : R[j]? = some (Ro enc e size (.slice (some ⟨g, 0, none⟩) xs.length k) xs)) (hn : xs.length = k)
    (h : SXO P ro n D M0 w0 Q ops rest l (⟨g, e, xs.flatMap enc⟩ :: B) (R.eraseIdx j) F m r) : SXO P ro n D M0 w0 Q ops rest l B R F m r :=
  fun hm a w hf hp => h hm a w hf (hp.r2b hj hn)
theorem sxq_r2b {x : Exit} {α : Type} {enc : α → List Value} {j g k : Nat} {xs : List α} (hj : R[j]? = some (Ro enc e size (.slice (some ⟨g, 0, none⟩) xs.length k) xs)) (hn : xs.length = k)
    (h : SXQ n D M0 w0 Q x l (⟨g, e, xs.flatMap enc⟩ :: B) (R.eraseIdx j) F m r) : SXQ n D M0 w0 Q x l B R F m r :=
  fun hm a w hf hp => h hm a w hf (hp.r2b hj hn)
theorem sxq_chk {x : Exit} {c : Bool} (h : c = true → SXQ n D M0 w0 Q x l B R F m r) : SXQ n D M0 w0 Q x l B R F (chk c m) r := by
  intro hm
  cases c
  · simp [chk] at hm
  · exact h rfl (by simpa [chk] using hm)
theorem sxo_indexAR {α : Type} {enc : α → List Value} {xs : List α} {k : α → Option ρ} {x ix : Operand} {ki : IntKind} {i : Int} {j g N : Nat}
    (hw : wants ops l ⟨some d, .indexAddr t' x ix, t, pos, af, gd⟩ = some true) (ht : P.underlying t' = some (.array N e)) (hT : TyF P e agg z size bytes) (hx : ev l x = some (.pointer (some ⟨g, 0, none⟩))) (hi : ev l ix = some (.int ki i))
    (hR : R[j]? = some (Ro enc t' size (.slice (some ⟨g, 0, none⟩) xs.length N) xs)) (hd : Nat.blt d n = true)
    (h : ∀ y, idx xs i = some y → SXO P ro n D M0 w0 Q ops rest ((d, .pointer (some ⟨g, i.toNat * size, none⟩)) :: l) B R F (k y) r) :
    SXO P ro n D M0 w0 Q ops (⟨some d, .indexAddr t' x ix, t, pos, af, gd⟩ :: rest) l B R F ((idx xs i).bind k) r := by
  refine sxo_gen hw fun hm a w hf hp => ?_
  cases hq : idx xs i with
  | none => rw [hq] at hm; simp at hm
  | some y =>
    rw [hq] at hm
    have hm' : k y = some r := by simpa using hm
    obtain ⟨h0, hlt, _⟩ := idx_get hq
    have h1 := hf.ev hx
    have h2 := hf.ev hi
    have hown := hp.row _ (List.mem_of_getElem? hR)
    rcases hown.2 with ⟨h5, _⟩ | ⟨g', cap, cur, h5, _, _, hle, _⟩
    · have h5' : Value.slice (some ⟨g, 0, none⟩) xs.length N = .slice none 0 0 := h5
      simp at h5'
    · have h5' : Value.slice (some ⟨g, 0, none⟩) xs.length N = .slice (some ⟨g', 0, none⟩) xs.length cap := h5
      simp only [Value.slice.injEq, Option.some.injEq, Addr.mk.injEq, true_and, and_true] at h5'
      obtain ⟨rfl, rfl⟩ := h5'
      have hle' : xs.length ≤ N := hle
      have hlt' : i < (N : Int) := by omega
      refine ⟨.pointer (some ⟨g, i.toNat * size, none⟩), w, ?_, h y hq hm' _ _ (hf.put hd _) hp⟩
      generalize a.eval = ε at h1 h2 ⊢
      simp [execOp, h1, h2, Instr.indexAt, asIntOf, run_underlying ht, hT.run_size, h0, hlt', addr_add, Instr.sureAddr, go_sem]
theorem yv_idxA {x ix : Operand} {ki : IntKind} {i : Int} {g N : Nat} (ht : P.underlying t' = some (.array N e)) (hT : TyF P e agg z size bytes) (hx : ev l x = some (.pointer (some ⟨g, 0, none⟩))) (hi : ev l ix = some (.int ki i))
    (h0 : 0 ≤ i) (h1 : i < (N : Int)) : Yv P l B F ⟨some d, .indexAddr t' x ix, t, pos, af, gd⟩ (.pointer (some ⟨g, i.toNat * size, none⟩)) := fun n D a w hf _ => by
  have e1 := hf.ev hx
  have e2 := hf.ev hi
  generalize a.eval = ε at e1 e2 ⊢
  simp [execOp, e1, e2, Instr.indexAt, asIntOf, run_underlying ht, hT.run_size, h0, h1, addr_add, Instr.sureAddr]
theorem sxc_idxA {x : Code} {α : Type} {enc : α → List Value} {xs : List α} {k : α → Option ρ} {i : Int} {g N j : Nat} (hR : R[j]? = some (Ro enc e size (.slice (some ⟨g, 0, none⟩) xs.length N) xs))
    (h : ∀ y, idx xs i = some y → i < (N : Int) → SXC P ro n D M0 w0 Q x l B R F (k y) r) :
    SXC P ro n D M0 w0 Q x l B R F ((idx xs i).bind k) r := by
  intro hm a w hf hp
  cases hq : idx xs i with
  | none => rw [hq] at hm; simp at hm
  | some y =>
    rw [hq] at hm
    have hm' : k y = some r := by simpa using hm
    obtain ⟨_, hlt, _⟩ := idx_get hq
    have hown := hp.row _ (List.mem_of_getElem? hR)
    rcases hown.2 with ⟨h5, _⟩ | ⟨g', cap, cur, h5, _, _, hle, _⟩
    · have h5' : Value.slice (some ⟨g, 0, none⟩) xs.length N = .slice none 0 0 := h5
      simp at h5'
    · have h5' : Value.slice (some ⟨g, 0, none⟩) xs.length N = .slice (some ⟨g', 0, none⟩) xs.length cap := h5
      simp only [Value.slice.injEq, Option.some.injEq, Addr.mk.injEq, true_and, and_true] at h5'
      obtain ⟨rfl, rfl⟩ := h5'
      have hle' : xs.length ≤ N := hle
      exact h y hq (by omega) hm' a w hf hp
/-- An array's value, an element of it. -/
theorem sxo_indexV {kn ki : IntKind} {xs : List Int} {k : Int → Option ρ} {x ix : Operand} {i : Int} {N : Nat}
    (hw : wants ops l ⟨some d, .index t' x ix, t, pos, af, gd⟩ = some true) (ht : P.underlying t' = some (.array N e)) (hT : TyF P e false z 1 bytes) (hx : ev l x = some (.agg (xs.flatMap (eI kn)).toArray)) (hi : ev l ix = some (.int ki i)) (hn : xs.length = N) (hd : Nat.blt d n = true)
    (h : ∀ y, idx xs i = some y → SXO P ro n D M0 w0 Q ops rest ((d, .int kn y) :: l) B R F (k y) r) :
    SXO P ro n D M0 w0 Q ops (⟨some d, .index t' x ix, t, pos, af, gd⟩ :: rest) l B R F ((idx xs i).bind k) r := by
  refine sxo_gen hw fun hm a w hf hp => ?_
  cases hq : idx xs i with
  | none => rw [hq] at hm; simp at hm
  | some y =>
    rw [hq] at hm
    have hm' : k y = some r := by simpa using hm
    obtain ⟨h0, hlt, hy⟩ := idx_get hq
    have h1 := hf.ev hx
    have h2 := hf.ev hi
    have hlt' : i < (N : Int) := by omega
    have e1 : xs.flatMap (eI kn) = xs.map (Value.int kn) := by
      clear hx h1 hn hq hlt hy hm h
      induction xs with
      | nil => rfl
      | cons x xs ih => rw [List.flatMap_cons, ih]; rfl
    have hc : (xs.flatMap (eI kn)).toArray[i.toNat]? = some (.int kn y) := by
      rw [e1, List.getElem?_toArray, List.getElem?_map, hy]; rfl
    refine ⟨.int kn y, w, ?_, h y hq hm' _ _ (hf.put hd _) hp⟩
    generalize a.eval = ε at h1 h2 ⊢
    generalize (xs.flatMap (eI kn)).toArray = cs at hc h1
    simp [execOp, h1, h2, Instr.index, asIntOf, run_underlying ht, hT.run_size, h0, hlt', part, hT.run_isAgg, hc]
theorem arr_hl {cs : List Value} {k : Nat} (h : cs.length = k) : ((cs.drop 0).take k).length = k := by rw [List.drop_zero, List.take_of_length_le (by omega), h]
theorem arr_hV {cs : List Value} {k : Nat} (h : cs.length = k) : (if true = true then Value.agg ((cs.drop 0).take k).toArray else ((cs.drop 0).take k).getD 0 undef) = .agg cs.toArray := by rw [if_pos rfl, List.drop_zero, List.take_of_length_le (by omega)]
theorem arr_len {kn : IntKind} {xs : List Int} {k : Nat} (h : xs.length = k) : (xs.flatMap (eI kn)).length = k := by rw [flatMap_len (eI_ok kn) xs, Nat.mul_one, h]
theorem arr_st {kn : IntKind} {cs : List Value} {ys : List Int} {k : Nat} (h : cs.length = k) (hy : ys.length = k) : cs.take 0 ++ (Value.agg (ys.flatMap (eI kn)).toArray).cells.toList ++ cs.drop (0 + (Value.agg (ys.flatMap (eI kn)).toArray).cells.size) = ys.flatMap (eI kn) := by
  have h1 := arr_len (kn := kn) hy
  have h2 : (Value.agg (ys.flatMap (eI kn)).toArray).cells = (ys.flatMap (eI kn)).toArray := rfl
  rw [h2, List.take_zero, List.nil_append, List.size_toArray, List.drop_of_length_le (by omega), List.append_nil]
theorem arr_ok {kn : IntKind} {ys : List Int} : okCells (Value.agg (ys.flatMap (eI kn)).toArray).cells.toList = true := by
  show (ys.flatMap (eI kn)).all (·.oneCell') = true
  rw [List.all_eq_true]
  intro v hv
  obtain ⟨y, _, hy⟩ := List.mem_flatMap.1 hv
  exact List.all_eq_true.1 ((eI_ok kn).ok y) v hy
theorem arr_le {kn : IntKind} {xs ys : List Int} {k : Nat} (hn : xs.length = k) (hy : ys.length = k) : decide (0 + (Value.agg (ys.flatMap (eI kn)).toArray).cells.size ≤ (xs.flatMap (eI kn)).length) = true := by
  have h1 := arr_len (kn := kn) hn
  have h2 := arr_len (kn := kn) hy
  have h3 : (Value.agg (ys.flatMap (eI kn)).toArray).cells.size = (ys.flatMap (eI kn)).length := rfl
  rw [h3]
  exact decide_eq_true (by omega)
theorem arr_sz {kn : IntKind} {ys : List Int} {k : Nat} (h : ys.length = k) : (Value.agg (ys.flatMap (eI kn)).toArray).cells.size = k := by
  show (ys.flatMap (eI kn)).toArray.size = k
  rw [List.size_toArray, arr_len h]
end
end SX

namespace SX
open Go Go.ChangeShapes Go.WideShapes Go.ChangeAt Go.RowKit Go.Joins Go.Deep

variable {H : Type} {enc : TypeId × Value → H} {P : Program}
/-- A struct's cells, each as its leaf's type wants it. -/
theorem agg_cells {W : World} {base : Nat} {t : TypeId} {ts : List TypeId} {fs : Array Field} {cs : Array Value} (hs : P.underlying t = some (.struct fs)) (hts : P.cellTypes P.depth t = some ts) (hv : Value.okWide P W .any base t (.agg cs)) :
    ∀ i v u, i < ts.length → cs[i]? = some v → ts[i]? = some u → Cell.okWide P W .any base u v := by
  unfold Value.okWide at hv
  rw [hs] at hv
  obtain ⟨cs', he, _, ts', h1, _, h2⟩ := hv
  cases he
  rw [hts] at h1
  cases h1
  intro i v u hi hc hu
  obtain ⟨u', h3, h4⟩ := h2 i v hc
  rw [Nat.mod_eq_of_lt hi, hu] at h3
  cases h3
  exact h4
/-- An argument that is a struct of an integer and a slice of integers. -/
theorem arg_int_slice {W : World} {base : Nat} {t e : TypeId} {f0 f1 : Field} {k0 k1 : IntKind} {v : Value} {d : DataW H} {p : List MemPlace} (hs : P.underlying t = some (.struct #[f0, f1])) (hone : oneCellFields P #[f0, f1] = true) (hC : P.cellsOf t = 2) (hts : P.cellTypes P.depth t = some [f0.type, f1.type])
    (h0 : P.underlying f0.type = some (.int k0)) (h1 : P.underlying f1.type = some (.slice e)) (he : P.underlying e = some (.int k1)) (hc : P.cellsOf e = 1)
    (hval : Value.okWide P W .any base t v) (h : DataW.Trod enc P W 0 (fun _ => true) true t v d p) :
    ∃ (n : Int) (a : Option Addr) (cap : Nat) (xs : List Int), v = .agg #[.int k0 n, .slice a xs.length cap] ∧ (Lit.int k0 n).wf = true ∧ Nec W [] (Sl (eI k1) 1 (.slice a xs.length cap) xs) ∧ (∀ n ∈ xs, (Lit.int k1 n).wf = true) ∧ xs.length ≤ maxLen := by
  obtain ⟨v0, v1, y0, y1, n, rfl, rfl, rfl, t0, t1⟩ := open_agg2 hs hone hC hval h
  have hcell := agg_cells hs hts hval
  have c0 := hcell 0 v0 f0.type (by simp) rfl rfl
  have c1 := hcell 1 v1 f1.type (by simp) rfl rfl
  have o0 : Value.okWide P W .any base f0.type v0 := by unfold Value.okWide; rw [h0]; exact c0
  have o1 : Value.okWide P W .any base f1.type v1 := by unfold Value.okWide; rw [h1]; exact c1
  have v0c : v0.cells = #[v0] := by
    obtain ⟨x, rfl⟩ := okWide_int h0 o0
    rfl
  have v1c : v1.cells = #[v1] := by
    obtain ⟨a, l, c, rfl⟩ := okWide_slice h1 o1
    rfl
  obtain ⟨x, rfl, _, _, wx⟩ := open_int h0 o0 (d := y0.1) (ps := y0.2) ⟨n, by rw [v0c]; exact t0⟩
  obtain ⟨a, cap, xs, rfl, hn, hw, hm⟩ := arg_ints h1 he hc o1 (d := y1.1) (p := y1.2) ⟨n, by rw [v1c]; exact t1⟩
  exact ⟨x, a, cap, xs, rfl, wx, hn, hw, hm⟩
end SX

namespace SX
open Go Go.ChangeShapes Go.WideShapes Go.ChangeAt Go.RowKit Go.Joins Go.Deep

variable {H : Type} {enc : TypeId × Value → H} {P : Program}
/-- One field of a struct's cells. -/
theorem trod_field {w : World} {base : Nat} {spare : Nat → Bool} {held : Bool} {t : TypeId} {fs : Array Field} {fuel : Nat} {cs cs' : List Value} {x : DataW H × List MemPlace} {i k : Nat} {f : Field} (ht : P.underlying t = some (.struct fs)) (hi : fs[i]? = some f) (hk : P.cellsOf f.type = k) (hc : (cs.drop f.offset).take k = cs') (h : DataW.trod enc P w base spare held fuel t cs = some x) :
    ∃ n y, DataW.trod enc P w base spare held n f.type cs' = some y := by
  obtain ⟨xs, n, _, rfl, hl, hlen, hf⟩ := DataW.trod_struct ht h
  have h1 := hf i f hi
  obtain ⟨hlt, _⟩ := Array.getElem?_eq_some_iff.1 hi
  have hlt' : i < xs.length := by omega
  refine ⟨n, xs[i], ?_⟩
  rw [← hc, ← hk, h1, List.getElem?_eq_getElem hlt']
theorem leaf_int {W : World} {base n : Nat} {t : TypeId} {k : IntKind} {v : Value} {y : DataW H × List MemPlace} (h0 : P.underlying t = some (.int k)) (hc : Cell.okWide P W .any base t v) (h : DataW.trod enc P W 0 (fun _ => true) true n t [v] = some y) :
    ∃ x, v = .int k x ∧ (Lit.int k x).wf = true := by
  have o0 : Value.okWide P W .any base t v := by unfold Value.okWide; rw [h0]; exact hc
  have vc : v.cells = #[v] := by
    obtain ⟨x, rfl⟩ := okWide_int h0 o0
    rfl
  obtain ⟨x, rfl, _, _, wx⟩ := open_int h0 o0 (d := y.1) (ps := y.2) ⟨n, by rw [vc]; exact h⟩
  exact ⟨x, rfl, wx⟩
theorem leaf_bool {W : World} {base n : Nat} {t : TypeId} {v : Value} {y : DataW H × List MemPlace} (h0 : P.underlying t = some .bool) (hc : Cell.okWide P W .any base t v) (_ : DataW.trod enc P W 0 (fun _ => true) true n t [v] = some y) :
    ∃ x : Bool, v = .bool x := by
  have o0 : Value.okWide P W .any base t v := by unfold Value.okWide; rw [h0]; exact hc
  exact okWide_bool h0 o0
theorem leaf_ints {W : World} {base n : Nat} {t e : TypeId} {k : IntKind} {v : Value} {y : DataW H × List MemPlace} (h1 : P.underlying t = some (.slice e)) (he : P.underlying e = some (.int k)) (hc1 : P.cellsOf e = 1) (hc : Cell.okWide P W .any base t v) (h : DataW.trod enc P W 0 (fun _ => true) true n t [v] = some y) :
    ∃ (a : Option Addr) (cap : Nat) (xs : List Int), v = .slice a xs.length cap ∧ Nec W [] (Sl (eI k) 1 v xs) ∧ (∀ n ∈ xs, (Lit.int k n).wf = true) ∧ xs.length ≤ maxLen := by
  have o1 : Value.okWide P W .any base t v := by unfold Value.okWide; rw [h1]; exact hc
  have vc : v.cells = #[v] := by
    obtain ⟨a, l, c, rfl⟩ := okWide_slice h1 o1
    rfl
  exact arg_ints h1 he hc1 o1 (d := y.1) (p := y.2) ⟨n, by rw [vc]; exact h⟩
theorem arr1 {α : Type} {cs : Array α} (h : cs.size = 1) : ∃ c0, cs = #[c0] := by
  obtain ⟨l⟩ := cs
  match l, h with
  | [c0], _ => exact ⟨c0, rfl⟩
theorem arr2 {α : Type} {cs : Array α} (h : cs.size = 2) : ∃ c0 c1, cs = #[c0, c1] := by
  obtain ⟨l⟩ := cs
  match l, h with
  | [c0, c1], _ => exact ⟨c0, c1, rfl⟩
theorem arr3 {α : Type} {cs : Array α} (h : cs.size = 3) : ∃ c0 c1 c2, cs = #[c0, c1, c2] := by
  obtain ⟨l⟩ := cs
  match l, h with
  | [c0, c1, c2], _ => exact ⟨c0, c1, c2, rfl⟩
theorem arr4 {α : Type} {cs : Array α} (h : cs.size = 4) : ∃ c0 c1 c2 c3, cs = #[c0, c1, c2, c3] := by
  obtain ⟨l⟩ := cs
  match l, h with
  | [c0, c1, c2, c3], _ => exact ⟨c0, c1, c2, c3, rfl⟩
theorem arr5 {α : Type} {cs : Array α} (h : cs.size = 5) : ∃ c0 c1 c2 c3 c4, cs = #[c0, c1, c2, c3, c4] := by
  obtain ⟨l⟩ := cs
  match l, h with
  | [c0, c1, c2, c3, c4], _ => exact ⟨c0, c1, c2, c3, c4, rfl⟩
theorem arr6 {α : Type} {cs : Array α} (h : cs.size = 6) : ∃ c0 c1 c2 c3 c4 c5, cs = #[c0, c1, c2, c3, c4, c5] := by
  obtain ⟨l⟩ := cs
  match l, h with
  | [c0, c1, c2, c3, c4, c5], _ => exact ⟨c0, c1, c2, c3, c4, c5, rfl⟩
theorem arr7 {α : Type} {cs : Array α} (h : cs.size = 7) : ∃ c0 c1 c2 c3 c4 c5 c6, cs = #[c0, c1, c2, c3, c4, c5, c6] := by
  obtain ⟨l⟩ := cs
  match l, h with
  | [c0, c1, c2, c3, c4, c5, c6], _ => exact ⟨c0, c1, c2, c3, c4, c5, c6, rfl⟩
theorem arr8 {α : Type} {cs : Array α} (h : cs.size = 8) : ∃ c0 c1 c2 c3 c4 c5 c6 c7, cs = #[c0, c1, c2, c3, c4, c5, c6, c7] := by
  obtain ⟨l⟩ := cs
  match l, h with
  | [c0, c1, c2, c3, c4, c5, c6, c7], _ => exact ⟨c0, c1, c2, c3, c4, c5, c6, c7, rfl⟩
theorem arr9 {α : Type} {cs : Array α} (h : cs.size = 9) : ∃ c0 c1 c2 c3 c4 c5 c6 c7 c8, cs = #[c0, c1, c2, c3, c4, c5, c6, c7, c8] := by
  obtain ⟨l⟩ := cs
  match l, h with
  | [c0, c1, c2, c3, c4, c5, c6, c7, c8], _ => exact ⟨c0, c1, c2, c3, c4, c5, c6, c7, c8, rfl⟩
theorem arr10 {α : Type} {cs : Array α} (h : cs.size = 10) : ∃ c0 c1 c2 c3 c4 c5 c6 c7 c8 c9, cs = #[c0, c1, c2, c3, c4, c5, c6, c7, c8, c9] := by
  obtain ⟨l⟩ := cs
  match l, h with
  | [c0, c1, c2, c3, c4, c5, c6, c7, c8, c9], _ => exact ⟨c0, c1, c2, c3, c4, c5, c6, c7, c8, c9, rfl⟩
theorem arr11 {α : Type} {cs : Array α} (h : cs.size = 11) : ∃ c0 c1 c2 c3 c4 c5 c6 c7 c8 c9 c10, cs = #[c0, c1, c2, c3, c4, c5, c6, c7, c8, c9, c10] := by
  obtain ⟨l⟩ := cs
  match l, h with
  | [c0, c1, c2, c3, c4, c5, c6, c7, c8, c9, c10], _ => exact ⟨c0, c1, c2, c3, c4, c5, c6, c7, c8, c9, c10, rfl⟩
theorem arr12 {α : Type} {cs : Array α} (h : cs.size = 12) : ∃ c0 c1 c2 c3 c4 c5 c6 c7 c8 c9 c10 c11, cs = #[c0, c1, c2, c3, c4, c5, c6, c7, c8, c9, c10, c11] := by
  obtain ⟨l⟩ := cs
  match l, h with
  | [c0, c1, c2, c3, c4, c5, c6, c7, c8, c9, c10, c11], _ => exact ⟨c0, c1, c2, c3, c4, c5, c6, c7, c8, c9, c10, c11, rfl⟩
end SX

namespace SX
open Go

theorem wrap_i64 {n : Int} (h1 : -9223372036854775808 ≤ n) (h2 : n < 9223372036854775808) : IntKind.wrap .i64 n = n := by
  unfold IntKind.wrap
  simp only [IntKind.bits, IntKind.signed]
  simp only [show (2 ^ 64 : Int) = 18446744073709551616 from by decide, show (2 ^ (64 - 1) : Int) = 9223372036854775808 from by decide]
  split
  · rename_i h; simp at h; omega
  · rename_i h; simp at h; omega
theorem wrap_u64 {n : Int} (h1 : 0 ≤ n) (h2 : n < 18446744073709551616) : IntKind.wrap .u64 n = n := by
  unfold IntKind.wrap
  simp only [IntKind.bits, IntKind.signed]
  simp only [show (2 ^ 64 : Int) = 18446744073709551616 from by decide, Bool.false_and, Bool.false_eq_true, if_false]
  omega
theorem wrap_u8 {n : Int} (h1 : 0 ≤ n) (h2 : n < 256) : IntKind.wrap .u8 n = n := by
  unfold IntKind.wrap
  simp only [IntKind.bits, IntKind.signed]
  simp only [show (2 ^ 8 : Int) = 256 from by decide, Bool.false_and, Bool.false_eq_true, if_false]
  omega
theorem wrap_u64_mod (n : Int) : IntKind.wrap .u64 n = n % 18446744073709551616 := by
  unfold IntKind.wrap
  simp only [IntKind.bits, IntKind.signed]
  simp only [show (2 ^ 64 : Int) = 18446744073709551616 from by decide, Bool.false_and, Bool.false_eq_true, if_false]
theorem wrap_u8_mod (n : Int) : IntKind.wrap .u8 n = n % 256 := by
  unfold IntKind.wrap
  simp only [IntKind.bits, IntKind.signed]
  simp only [show (2 ^ 8 : Int) = 256 from by decide, Bool.false_and, Bool.false_eq_true, if_false]
theorem iadd_i64 {a b : Int} (h1 : -9223372036854775808 ≤ a + b) (h2 : a + b < 9223372036854775808) : iadd .i64 a b = a + b := wrap_i64 h1 h2
theorem isub_i64 {a b : Int} (h1 : -9223372036854775808 ≤ a - b) (h2 : a - b < 9223372036854775808) : isub .i64 a b = a - b := wrap_i64 h1 h2
theorem imul_i64 {a b : Int} (h1 : -9223372036854775808 ≤ a * b) (h2 : a * b < 9223372036854775808) : imul .i64 a b = a * b := wrap_i64 h1 h2
theorem idx_nat {α : Type} (xs : List α) (i : Nat) : idx xs (i : Int) = xs[i]? := by simp [idx]
theorem app_eq {α : Type} {lim : Nat} {xs ys : List α} (h : xs.length + ys.length ≤ lim) : app lim xs ys = some (xs ++ ys) := by simp [app, h]
theorem u64_of_wf {x : Int} (h : (Lit.int .u64 x).wf = true) : 0 ≤ x ∧ x < 18446744073709551616 := by
  simp [Lit.wf, IntKind.min, IntKind.max, IntKind.signed, IntKind.bits] at h
  exact ⟨by omega, by omega⟩
theorem i64_of_wf {x : Int} (h : (Lit.int .i64 x).wf = true) : -9223372036854775808 ≤ x ∧ x < 9223372036854775808 := by
  simp [Lit.wf, IntKind.min, IntKind.max, IntKind.signed, IntKind.bits] at h
  exact ⟨by omega, by omega⟩
theorem u8_of_wf {x : Int} (h : (Lit.int .u8 x).wf = true) : 0 ≤ x ∧ x < 256 := by
  simp [Lit.wf, IntKind.min, IntKind.max, IntKind.signed, IntKind.bits] at h
  exact ⟨by omega, by omega⟩
/-! ### Bits -/
theorem iand_mask {k : IntKind} {a : Int} {m : Nat} (ha : 0 ≤ a) (ha2 : a < 2 ^ k.bits) (hm : m ≤ k.bits) (hs : k.signed = false) : iand k a (2 ^ m - 1 : Nat) = a % 2 ^ m := by
  unfold iand
  obtain ⟨n, rfl⟩ := Int.eq_ofNat_of_zero_le ha
  have hn : n < 2 ^ k.bits := by exact_mod_cast ha2
  have h1 : (BitVec.ofInt k.bits (n : Int)) = BitVec.ofNat k.bits n := by simp
  have h2 : (BitVec.ofInt k.bits ((2 ^ m - 1 : Nat) : Int)) = BitVec.ofNat k.bits (2 ^ m - 1) := by simp
  rw [h1, h2, BitVec.toNat_and, BitVec.toNat_ofNat, BitVec.toNat_ofNat, Nat.mod_eq_of_lt hn]
  have h3 : 2 ^ m ≤ 2 ^ k.bits := Nat.pow_le_pow_right (by decide) hm
  have h0 : 0 < 2 ^ m := Nat.pow_pos (by decide)
  rw [Nat.mod_eq_of_lt (by omega), Nat.and_two_pow_sub_one_eq_mod]
  have h4 : n % 2 ^ m < 2 ^ k.bits := Nat.lt_of_lt_of_le (Nat.mod_lt _ h0) h3
  unfold IntKind.wrap
  simp only [hs, Bool.false_and, Bool.false_eq_true, if_false]
  rw [Int.emod_eq_of_lt (by omega) (by exact_mod_cast h4)]
  simp
/-- Bits that do not meet: 'or' adds. -/
theorem ior_add {k : IntKind} {a b : Int} {m : Nat} (ha : 0 ≤ a) (ham : a < 2 ^ m) (hb : 0 ≤ b) (hbm : b % 2 ^ m = 0) (hs : k.signed = false) (hab : a + b < 2 ^ k.bits) : ior k a b = a + b := by
  unfold ior
  obtain ⟨x, rfl⟩ := Int.eq_ofNat_of_zero_le ha
  obtain ⟨y, rfl⟩ := Int.eq_ofNat_of_zero_le hb
  have hx : x < 2 ^ m := by exact_mod_cast ham
  have hy : y % 2 ^ m = 0 := by exact_mod_cast hbm
  have hxy : x + y < 2 ^ k.bits := by exact_mod_cast hab
  have h1 : (BitVec.ofInt k.bits (x : Int)) = BitVec.ofNat k.bits x := by simp
  have h2 : (BitVec.ofInt k.bits (y : Int)) = BitVec.ofNat k.bits y := by simp
  rw [h1, h2, BitVec.toNat_or, BitVec.toNat_ofNat, BitVec.toNat_ofNat, Nat.mod_eq_of_lt (by omega), Nat.mod_eq_of_lt (by omega)]
  have h3 : x ||| y = x + y := by
    have hy2 : y = 2 ^ m * (y / 2 ^ m) := by
      have := Nat.div_add_mod y (2 ^ m); omega
    have h4 := Nat.two_pow_add_eq_or_of_lt hx (y / 2 ^ m)
    rw [← hy2] at h4
    rw [Nat.or_comm, ← h4, Nat.add_comm]
  rw [h3]
  unfold IntKind.wrap
  simp only [hs, Bool.false_and, Bool.false_eq_true, if_false]
  rw [Int.emod_eq_of_lt (by omega) (by exact_mod_cast hxy)]
  simp
theorem ishr_eq {k : IntKind} {a : Int} {m : Nat} (hm : m ≤ k.bits) : ishr k a (m : Int) = a / 2 ^ m := by
  unfold ishr
  have h : min ((m : Int).toNat) k.bits = m := by simp; omega
  rw [h, Int.fdiv_eq_ediv_of_nonneg _ (by exact_mod_cast Nat.zero_le _)]
theorem ishl_u64 {a : Int} {m : Nat} (hm : m ≤ 64) : ishl .u64 a (m : Int) = (a * 2 ^ m) % 18446744073709551616 := by
  unfold ishl
  have h : min ((m : Int).toNat) (IntKind.bits .u64) = m := by simp [IntKind.bits]; omega
  rw [h, wrap_u64_mod]
end SX

