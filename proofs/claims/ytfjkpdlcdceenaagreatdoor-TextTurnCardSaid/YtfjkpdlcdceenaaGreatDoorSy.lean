/- A layer of rules for walking Go code: what a frame's slots hold, what blocks and rows of the heap hold; each rule speaks of a plain model's value: part 3. -/
import Derived.Test.YtfjkpdlcdceenaaGreatDoorSx
import Derived.Shelf.SlSortCmp.NoneTotal
import Derived.Lib.SmallJoins
import Derived.Deep.Slices
namespace SX
open Go
section rules
variable {P : Program} {ro : Option Nat} {n : Nat} {D : List Deferred} {M0 : List Nat} {w0 : World} {Q : Exit → Act → World → Prop} {ρ : Type}
variable {ops : Array Oper} {rest : List Oper} {l : Env} {B : List BlkD} {R : List RowD} {F : List (World → Prop)} {m : Option ρ} {r : ρ}
variable {d : Nat} {t t' e : TypeId} {pos : String} {af : Array Edge} {gd : Option (Nat × Bool)} {agg : Bool} {z : Value} {size bytes : Nat}
variable {α : Type} {enc : α → List Value} {xs : List α}
theorem qgk {c : Code} {β : Type} {x : Option β} {k : β → Option ρ} (h : ∀ y, x = some y → SXC P ro n D M0 w0 Q c l B R F (k y) r) : SXC P ro n D M0 w0 Q c l B R F (x.bind k) r := by
  intro hm
  cases x with
  | none => simp at hm
  | some y => exact h y rfl hm
theorem qgu {x : Operand} {lo : Option Operand} {li : Int} {ao : Option Addr} {c j : Nat}
    (hw : wants ops l ⟨some d, .slice t' x lo none none, t, pos, af, gd⟩ = some true) (ht : P.underlying t' = some (.slice e)) (hT : TyF P e agg z size bytes) (hx : ev l x = some (.slice ao xs.length c))
    (hlo : evOpt l lo 0 = some li) (hR : R[j]? = some (Ro enc e size (.slice ao xs.length c) xs)) (hd : Nat.blt d n = true)
    (h : 0 ≤ li ∧ li < (xs.length : Int) → ∀ g, ao = some ⟨g, 0, none⟩ → SXO P ro n D M0 w0 Q ops rest ((d, .slice (some ⟨g, li.toNat * size, none⟩) (xs.length - li.toNat) (c - li.toNat)) :: l) B R F m r) :
    SXO P ro n D M0 w0 Q ops (⟨some d, .slice t' x lo none none, t, pos, af, gd⟩ :: rest) l B R F (chk (decide (0 ≤ li ∧ li < (xs.length : Int))) m) r := by
  refine kp hw fun hm a w hf hp => ?_
  by_cases hc : 0 ≤ li ∧ li < (xs.length : Int)
  · rw [decide_eq_true hc] at hm
    have hm' : m = some r := hm
    have hown := hp.row _ (List.mem_of_getElem? hR)
    rcases hown.2 with ⟨h5, h6⟩ | ⟨g, cap, cur, h5, _, hgg, hnc, _⟩
    · have h6' : xs.length = 0 := h6
      omega
    · have h5' : Value.slice ao xs.length c = .slice (some ⟨g, 0, none⟩) xs.length cap := h5
      simp only [Value.slice.injEq, true_and] at h5'
      obtain ⟨rfl, rfl⟩ := h5'
      have hnc' : xs.length ≤ c := hnc
      obtain ⟨L, rfl⟩ := Int.eq_ofNat_of_zero_le hc.1
      have h1 := hf.ev hx
      have e2 := v7 hf hlo
      have hL : L < xs.length := by omega
      have hb0 : (0 : Int) ≤ (L : Int) := by omega
      have hb1 : (L : Int) ≤ (xs.length : Int) := by omega
      have hb2 : (xs.length : Int) ≤ (c : Int) := by omega
      have hc0 : ¬ c - L = 0 := by omega
      have hc1 : ¬ c ≤ L := by omega
      refine ⟨.slice (some ⟨g, L * size, none⟩) (xs.length - L) (c - L), w, ?_, h hc g rfl hm' _ _ (hf.put hd _) hp⟩
      generalize hε : a.eval = ε at h1 e2 ⊢
      rcases e2 with ⟨k2, e2⟩ | ⟨rfl, e2⟩
      · have hn1 : L ≤ xs.length := by omega
        simp [execOp, h1, e2, Instr.sliceAt, Instr.slice, Instr.sliceBounds, Instr.sliceBound, asIntOf, run_underlying ht, hT.run_size, hb0, hn1, Addr.add_lit]
        exact fun hcl => absurd hcl (by omega)
      · have : L = 0 := by omega
        subst this
        have hcz : ¬ c = 0 := by omega
        simp [execOp, h1, Instr.sliceAt, Instr.slice, Instr.sliceBounds, run_underlying ht, hT.run_size, hcz, Addr.add_lit]
  · rw [decide_eq_false hc] at hm
    simp [chk] at hm
theorem qcp {K N : Nat} {i : Int} {y : α} (hN : xs.length = N) (h : idx (xs.drop K) i = some y) : 0 ≤ i ∧ i < ((N - K : Nat) : Int) := by
  obtain ⟨h1, h2, _⟩ := qr h
  rw [List.length_drop, hN] at h2
  exact ⟨h1, by omega⟩
theorem qfh {K : Nat} {i : Int} {y : α} (h : idx (xs.drop K) i = some y) : xs[K + i.toNat]? = some y := by
  obtain ⟨_, _, h3⟩ := qr h
  rwa [List.getElem?_drop] at h3
theorem qeO {k : α → Option ρ} {x ix : Operand} {ki : IntKind} {i : Int} {g K N cc : Nat} (hN : xs.length = N)
    (hw : wants ops l ⟨some d, .indexAddr t' x ix, t, pos, af, gd⟩ = some true) (ht : P.underlying t' = some (.slice e)) (hT : TyF P e agg z size bytes) (hx : ev l x = some (.slice (some ⟨g, K * size, none⟩) (N - K) cc)) (hi : ev l ix = some (.int ki i)) (hd : Nat.blt d n = true)
    (h : ∀ y, idx (xs.drop K) i = some y → SXO P ro n D M0 w0 Q ops rest ((d, .pointer (some ⟨g, K * size + i.toNat * size, none⟩)) :: l) B R F (k y) r) :
    SXO P ro n D M0 w0 Q ops (⟨some d, .indexAddr t' x ix, t, pos, af, gd⟩ :: rest) l B R F ((idx (xs.drop K) i).bind k) r := by
  refine kp hw fun hm a w hf hp => ?_
  cases hq : idx (xs.drop K) i with
  | none => rw [hq] at hm; simp at hm
  | some y =>
    rw [hq] at hm
    have hm' : k y = some r := by simpa using hm
    obtain ⟨h0, h1⟩ := qcp hN hq
    have e1 := hf.ev hx
    have e2 := hf.ev hi
    refine ⟨_, w, ?_, h y hq hm' _ _ (hf.put hd _) hp⟩
    generalize a.eval = ε at e1 e2 ⊢
    simp [execOp, e1, e2, Instr.indexAt, asIntOf, run_underlying ht, hT.run_size, h0, h1, vA]
theorem qfD {x : Operand} {j g K c : Nat} {i : Int} {ao : Option Addr} {V : Value} {y : α} (henc : EncOk enc size) (hw : wants ops l ⟨some d, .load t' x, t, pos, af, gd⟩ = some true)
    (hx : ev l x = some (.pointer (some ⟨g, K * size + i.toNat * size, none⟩))) (hT : TyF P t' agg z size bytes)
    (hR : R[j]? = some (Ro enc e size (.slice ao xs.length c) xs)) (ha : ao = some ⟨g, 0, none⟩) (hy : idx (xs.drop K) i = some y) (hs : agg = false → size = 1) (hV : (if agg then .agg (enc y).toArray else (enc y).getD 0 undef) = V) (hd : Nat.blt d n = true)
    (h : SXO P ro n D M0 w0 Q ops rest ((d, V) :: l) B R F m r) : SXO P ro n D M0 w0 Q ops (⟨some d, .load t' x, t, pos, af, gd⟩ :: rest) l B R F m r := by
  rw [← Nat.add_mul] at hx
  exact zV henc hw hx hT hR (vp ha) (qfh hy) hs hV hd h
theorem qeZ {K g c e : Nat} {i : Int} {y : α} {ao : Option Addr} (henc : EncOk enc size) (hy : idx (xs.drop K) i = some y) (ha : ao = some ⟨g, 0, none⟩) :
    ∀ w, Cells (Ro enc e size (.slice ao xs.length c) xs).v (Ro enc e size (.slice ao xs.length c) xs).n (Ro enc e size (.slice ao xs.length c) xs).size (Ro enc e size (.slice ao xs.length c) xs).cs w → qk g (K * size + i.toNat * size) (enc y) w := by
  intro w h
  have hq : idx xs ((K + i.toNat : Nat) : Int) = some y := by
    unfold idx
    rw [if_pos (by omega), Int.toNat_natCast]
    exact qfh hy
  have := qF (e := e) (c := c) henc hq ha w h
  rw [Int.toNat_natCast, Nat.add_mul] at this
  exact this
theorem qeM {x : Operand} {s' : TypeId} {g K N c j : Nat} {ao : Option Addr} {zy : α} {k : List α → Option ρ} (henc : EncOk enc size) (hs0 : size ≠ 0) (hN : xs.length = N) (hK : K < N)
    (hw : wants ops l ⟨none, .call ⟨.builtin .clear, #[x], #[s']⟩, t, pos, af, gd⟩ = some true) (ht : P.underlying s' = some (.slice e)) (hT : TyF P e agg z size bytes) (hz : enc zy = z.cells.toList)
    (hx : ev l x = some (.slice (some ⟨g, K * size, none⟩) (N - K) (c - K))) (hR : R[j]? = some (Ro enc e size (.slice ao xs.length c) xs)) (ha : ao = some ⟨g, 0, none⟩)
    (h : ∀ ys, xs.take K ++ List.replicate (xs.length - K) zy = ys → Value.slice ao xs.length c = .slice ao ys.length c → SXO P ro n D M0 w0 Q ops rest l B (Ro enc e size (.slice ao ys.length c) ys :: R.eraseIdx j) F (k ys) r) :
    SXO P ro n D M0 w0 Q ops (⟨none, .call ⟨.builtin .clear, #[x], #[s']⟩, t, pos, af, gd⟩ :: rest) l B R F (lett (xs.take K ++ List.replicate (xs.length - K) zy) k) r := by
  intro hm a w hf hp
  subst ha
  have hyl : (xs.take K ++ List.replicate (xs.length - K) zy).length = xs.length := by rw [List.length_append, List.length_take, List.length_replicate]; omega
  have h1 := h _ rfl (by rw [hyl])
  have hown := hp.row _ (List.mem_of_getElem? hR)
  rcases hown.2 with ⟨h5, h6⟩ | ⟨g', cap, cur, h5, _, hgg, hnc, hcm, hcs, htake⟩
  · have h6' : xs.length = 0 := h6
    omega
  · have h5' : Value.slice (some ⟨g, 0, none⟩) xs.length c = .slice (some ⟨g', 0, none⟩) xs.length cap := h5
    simp only [Value.slice.injEq, true_and, Option.some.injEq, Addr.mk.injEq, and_true] at h5'
    obtain ⟨rfl, rfl⟩ := h5'
    have hgg' : w.heap[g]? = some (.cells cur e (0, 0)) := hgg
    have hcs' : cur.size = c * size := hcs
    have hnc' : xs.length ≤ c := hnc
    have htake' : cur.toList.take (xs.length * size) = xs.flatMap enc := htake
    have hzl : z.cells.toList.length = size := by rw [← hz]; exact henc.len zy
    have hzs : z.cells.size = size := by rw [← hzl, Array.length_toList]
    obtain ⟨i0, hi0, hz0, hsz0, hb0⟩ := hT.inf
    have hzc : (Builtin.zeroCells z.cells (N - K)).toList = (List.replicate (N - K) z.cells.toList).flatten := by
      have := qb3 (ca := z.cells) (zc := z.cells.toList) hzl hs0 rfl (N - K)
      rw [← this]
      unfold Builtin.zeroCells madeCells
      simp [hzs, Nat.mul_comm]
    have hrl : ((List.replicate (N - K) z.cells.toList).flatten).length = (N - K) * size := by
      rw [← hzc, Array.length_toList, size_zeroCells, hzs]
    have hkm : K * size + (N - K) * size = N * size := by rw [← Nat.add_mul]; congr 1; omega
    have hmul : N * size ≤ c * size := Nat.mul_le_mul_right _ (by omega)
    have hone : ∀ v ∈ (List.replicate (N - K) z.cells.toList).flatten, v.oneCell' = true := by
      intro v hv
      obtain ⟨lz, hlz, hv⟩ := List.mem_flatten.1 hv
      rw [(List.mem_replicate.1 hlz).2, ← hz] at hv
      exact List.all_eq_true.1 (henc.ok zy) v hv
    have hst := run_storeCells_at P g (K * size) e ((List.replicate (N - K) z.cells.toList).flatten) 0 cur w hgg' (by rw [hrl]; omega) hone
    simp only [Nat.add_zero] at hst
    have hr : (execOp a.eval ⟨none, .call ⟨.builtin .clear, #[x], #[s']⟩, t, pos, af, gd⟩).run P w = .ok (.value (.tuple #[])) (w.setRow g (cur.toList.take (K * size) ++ (List.replicate (N - K) z.cells.toList).flatten ++ cur.toList.drop (K * size + ((List.replicate (N - K) z.cells.toList).flatten).length)).toArray) := by
      have e1 := hf.ev hx
      have hNK : ¬ N - K = 0 := by omega
      obtain ⟨q, hq⟩ := Nat.exists_eq_succ_of_ne_zero hNK
      generalize a.eval = ε at e1 ⊢
      rw [hq] at e1 hzc hst ⊢
      simp [execOp, resolve, invoke, builtin, e1, Builtin.clear_, run_underlying ht, zeroValue, typeInfo, hi0, hz0, hzc, hst]
    refine qaH (zo hf hw) (kN hw) hr (h1 hm _ _ hf (hp.swapRow hR ?_ (.inl ⟨rfl, ⟨rfl, rfl, rfl, by simp, fun k _ hk => setRow_other w g k _ (fun e => hk (by simp [Ro, Value.ownBlock, e])), Nat.le_refl _⟩⟩)))
    refine ⟨by show ((xs.take K ++ List.replicate (xs.length - K) zy).flatMap enc).length = _ * size; exact zn henc _, .inr ⟨g, c, _, rfl, Nat.zero_le _, setRow_heap w g cur _ e _ hgg', ?_, hcm, ?_, ?_⟩⟩
    · show (xs.take K ++ List.replicate (xs.length - K) zy).length ≤ c; rw [hyl]; exact hnc'
    · show _ = c * size
      simp only [List.size_toArray, List.length_append, List.length_take, List.length_drop, Array.length_toList, hrl]
      omega
    · show List.take ((xs.take K ++ List.replicate (xs.length - K) zy).length * size) _ = (xs.take K ++ List.replicate (xs.length - K) zy).flatMap enc
      have t1 : cur.toList.take (K * size) = (xs.take K).flatMap enc := by
        rw [j2 henc, ← htake', List.take_take]
        congr 1
        have := Nat.mul_le_mul_right size (show K ≤ xs.length by omega)
        omega
      have t2 : (List.replicate (xs.length - K) zy).flatMap enc = (List.replicate (N - K) z.cells.toList).flatten := by rw [qa0 hz, hN]
      rw [hyl, List.flatMap_append, t2, t1, List.take_left']
      rw [List.length_append, hrl, zn henc, List.length_take, hN, Nat.min_eq_left (by omega)]
      exact hkm
end rules
end SX
namespace SX
open Go Go.Sort Go.Proofs
def CellsW (w : World) (blk N : Nat) (W : World) : Prop := ∃ (m : Nat) (os : Array Obj) (A : Array Value), A.size = N ∧ W = grow (putRow id (ahead w m) blk 0 A) os
def qdj (P : Program) (f g : FuncId) (k : Nat) (arg : List Value → Value) (cb : Array Value) : Prop :=
  ∀ (α : Type) [Inhabited α] (enc : α → List Value), (∀ x, (enc x).length = k) → (∀ x, ∀ v ∈ enc x, v.oneCell' = true) → ∀ (cf : α → α → Int), SWO (ltOf cf) → (∀ x y, ltOf cf x y = false → ltOf cf y x = false → x = y) →
    ∀ (blk cap : Nat) (d : Array α) (w : World),
      (∀ W, CellsW w blk (d.size * k) W → ∀ x y : α, Calls P g (#[arg (enc x), arg (enc y)] ++ cb) W fun e w' => e = .returned (.int .i64 (cf x y)) ∧ ∃ q os', w' = grow (W.drewN q) os') →
      HoldsK enc k w blk 0 d → blk < w.heap.size → d.size < 4611686018427387904 →
      Calls P f #[.slice (some ⟨blk, 0, none⟩) d.size cap, .func (.func g) #[] cb] w fun e w' =>
        e = .returned (.tuple #[]) ∧ ∃ n os, w' = grow (putRow id (ahead w n) blk 0 (flatK enc k (d.toList.mergeSort fun x y => !(ltOf cf) y x).toArray)) os
theorem qfw {P : Program} {f g k : Nat} {cb : Array Value}
    (h : ∀ (α : Type) [Inhabited α] (enc : α → List Value), (∀ x, (enc x).length = k) → (∀ x, ∀ v ∈ enc x, v.oneCell' = true) → ∀ (cf : α → α → Int), SWO (ltOf cf) → ∀ (blk cap : Nat) (d : Array α) (w : World), CmpLays P g cb enc k cf blk 0 d.size w → HoldsK enc k w blk 0 d → blk < w.heap.size → d.size < 4611686018427387904 → (∀ x y, ltOf cf x y = false → ltOf cf y x = false → x = y) →
      Calls P f #[.slice (some ⟨blk, 0, none⟩) d.size cap, .func (.func g) #[] cb] w fun e w' => e = .returned (.tuple #[]) ∧ ∃ n os, w' = sortWorldK enc k w blk 0 n (d.toList.mergeSort fun x y => !(ltOf cf) y x).toArray os) :
    qdj P f g k (fun l => .agg l.toArray) cb := by
  intro α _ enc hk h1 cf hO hT blk cap d w hc hH hb hsz
  refine h α enc hk h1 cf hO blk cap d w (fun m os dk hdk x y => ?_) hH hb hsz hT
  exact hc _ ⟨m, os, flatK enc k dk, by rw [size_flatK, hdk], rfl⟩ x y
theorem qea {A cur : Array Value} (h : A.size ≤ cur.size) : (putCells id 0 A cur).toList.take A.size = A.toList := by
  apply List.ext_getElem?
  intro j
  unfold putCells
  by_cases hj : j < A.size
  · have hc : j < cur.size := by omega
    rw [List.getElem?_take_of_lt hj, Array.getElem?_toList, Array.getElem?_mapIdx, Array.getElem?_eq_getElem hc]
    simp only [Option.map_some]
    rw [if_pos (by omega), Nat.sub_zero, getElem!_pos A j hj, Array.getElem?_toList, Array.getElem?_eq_getElem hj]
    rfl
  · rw [List.getElem?_eq_none (by simp; omega), List.getElem?_eq_none (by simp; omega)]
theorem qeb {w : World} {g e : Nat} {fz : Nat × Nat} {cur A : Array Value} (h : w.heap[g]? = some (.cells cur e fz)) : (putRow id w g 0 A).heap[g]? = some (.cells (putCells id 0 A cur) e fz) := by
  unfold putRow mapBlock
  show (w.heap.modify g _)[g]? = _
  rw [Array.getElem?_modify, if_pos rfl, h]
  rfl
theorem qb7 {w : World} {g k : Nat} {A : Array Value} (h : k ≠ g) : (putRow id w g 0 A).heap[k]? = w.heap[k]? := by
  unfold putRow mapBlock
  show (w.heap.modify g _)[k]? = _
  rw [Array.getElem?_modify, if_neg (fun e => h e.symm)]
theorem qaq {w : World} {g n : Nat} {A : Array Value} {os : Array Obj} : Keeps [g] w (grow (putRow id (ahead w n) g 0 A) os) := by
  have hs : (putRow id (ahead w n) g 0 A).heap.size = w.heap.size := by
    show (w.heap.modify g _).size = _
    simp
  refine ⟨rfl, rfl, rfl, ?_, fun k hk hn => ?_, Nat.le_add_right _ _⟩
  · show w.heap.size ≤ ((putRow id (ahead w n) g 0 A).heap ++ os).size
    rw [Array.size_append]; omega
  · show ((putRow id (ahead w n) g 0 A).heap ++ os)[k]? = _
    rw [Array.getElem?_append_left (by omega), qb7 (by simpa using hn)]
    rfl
theorem Keeps.grown {w w' : World} (h : Keeps [] w w') : ∃ q os, w' = grow (w.drewN q) os := by
  refine ⟨w'.drawn - w.drawn, w'.heap.extract w.heap.size w'.heap.size, ?_⟩
  have h1 := h.os
  have h2 := h.tape
  have h3 := h.output
  have h4 := h.drawn
  have h5 := h.size
  have hh : w'.heap = w.heap ++ w'.heap.extract w.heap.size w'.heap.size := by
    apply Array.ext_getElem?
    intro i
    by_cases hi : i < w.heap.size
    · rw [Array.getElem?_append_left hi]; exact h.block i hi (by simp)
    · rw [Array.getElem?_append_right (by omega), Array.getElem?_extract]
      by_cases hi2 : i < w'.heap.size
      · rw [if_pos (by omega)]; congr 1; omega
      · rw [if_neg (by omega), Array.getElem?_eq_none (by omega)]
  cases w; cases w'
  simp only [grow, World.drewN] at *
  subst h1 h2 h3
  simp only [World.mk.injEq, true_and, and_true]
  exact ⟨hh, by omega⟩
def CmpOk {α : Type} (c : α → α → Option Int) (xs : List α) : Prop :=
  (∀ a ∈ xs, ∀ b ∈ xs, ∃ z, c a b = some z) ∧ SWO (ltOf fun (a b : {x // x ∈ xs}) => (c a.1 b.1).getD 0) ∧
    (∀ a ∈ xs, ∀ b ∈ xs, ltOf (fun a b => (c a b).getD 0) a b = false → ltOf (fun a b => (c a b).getD 0) b a = false → a = b)
def ltO {α : Type} (c : α → α → Option Int) (a b : α) : Bool := decide ((c a b).getD 0 < 0)
def cmpOkB {α : Type} [DecidableEq α] (c : α → α → Option Int) (xs : List α) : Bool :=
  xs.all fun a => !ltO c a a && xs.all fun b => (c a b).isSome && (ltO c a b || ltO c b a || decide (a = b)) && xs.all fun d => (!(ltO c a b && ltO c b d) || ltO c a d) && (ltO c a b || ltO c b d || !ltO c a d)
theorem qcI {α : Type} [DecidableEq α] {c : α → α → Option Int} {xs : List α} : cmpOkB c xs = true ↔ CmpOk c xs := by
  unfold cmpOkB CmpOk
  simp only [List.all_eq_true, Bool.and_eq_true, Bool.not_eq_true', Bool.or_eq_true, decide_eq_true_eq, Option.isSome_iff_exists]
  constructor
  · intro h
    refine ⟨fun a ha b hb => ((h a ha).2 b hb).1.1, ⟨fun x => (h x.1 x.2).1, fun x y z h1 h2 => ?_, fun x y z h1 h2 => ?_⟩, fun a ha b hb h1 h2 => ?_⟩
    · rcases (((h x.1 x.2).2 y.1 y.2).2 z.1 z.2).1 with h3 | h3
      · have e1 : ltO c x.1 y.1 = true := h1
        have e2 : ltO c y.1 z.1 = true := h2
        rw [e1, e2] at h3; simp at h3
      · exact h3
    · rcases (((h x.1 x.2).2 y.1 y.2).2 z.1 z.2).2 with (h3 | h3) | h3
      · have e1 : ltO c x.1 y.1 = false := h1
        rw [e1] at h3; simp at h3
      · have e1 : ltO c y.1 z.1 = false := h2
        rw [e1] at h3; simp at h3
      · exact h3
    · rcases ((h a ha).2 b hb).1.2 with (h3 | h3) | h3
      · have e1 : ltO c a b = false := h1
        rw [e1] at h3; simp at h3
      · have e1 : ltO c b a = false := h2
        rw [e1] at h3; simp at h3
      · exact h3
  · rintro ⟨h1, h2, h3⟩ a ha
    refine ⟨h2.irrefl ⟨a, ha⟩, fun b hb => ⟨⟨h1 a ha b hb, ?_⟩, fun d hd => ⟨?_, ?_⟩⟩⟩
    · by_cases e1 : ltO c a b = true
      · exact .inl (.inl e1)
      · by_cases e2 : ltO c b a = true
        · exact .inl (.inr e2)
        · exact .inr (h3 a ha b hb (Bool.eq_false_iff.2 e1) (Bool.eq_false_iff.2 e2))
    · by_cases e1 : ltO c a b = true
      · by_cases e2 : ltO c b d = true
        · exact .inr (h2.trans ⟨a, ha⟩ ⟨b, hb⟩ ⟨d, hd⟩ e1 e2)
        · left; simp [e2]
      · left; simp [e1]
    · by_cases e1 : ltO c a b = true
      · exact .inl (.inl e1)
      · by_cases e2 : ltO c b d = true
        · exact .inl (.inr e2)
        · exact .inr (h2.ntrans ⟨a, ha⟩ ⟨b, hb⟩ ⟨d, hd⟩ (Bool.eq_false_iff.2 e1) (Bool.eq_false_iff.2 e2))
def jB {α : Type} (c : α → α → Option Int) (xs : List α) : List α :=
  ((xs.attach).mergeSort fun x y => !(ltOf fun (a b : {x // x ∈ xs}) => (c a.1 b.1).getD 0) y x).map (·.1)
def sortF {α : Type} [DecidableEq α] (c : α → α → Option Int) (xs : List α) : Option (List α) :=
  if cmpOkB c xs = true ∧ xs.length < 4611686018427387904 then some (jB c xs) else none
theorem qeg {α : Type} (c : α → α → Option Int) (xs : List α) : (jB c xs).length = xs.length := by
  unfold jB; rw [List.length_map, List.length_mergeSort, List.length_attach]
theorem qdD {α : Type} (c : α → α → Option Int) (xs : List α) : (jB c xs).Perm xs := by
  unfold jB
  have h := (List.mergeSort_perm xs.attach fun x y => !(ltOf fun (a b : {x // x ∈ xs}) => (c a.1 b.1).getD 0) y x).map (·.1)
  have e : xs.attach.map (·.1) = xs := by simp
  rw [e] at h
  exact h
theorem qeJ {α : Type} {c : α → α → Option Int} {xs : List α} (h : CmpOk c xs) : (jB c xs).Pairwise fun a b => ∀ z, c b a = some z → ¬ z < 0 := by
  unfold jB
  rw [List.pairwise_map]
  have hS := h.2.1
  have := List.pairwise_mergeSort (le := fun x y => !(ltOf fun (a b : {x // x ∈ xs}) => (c a.1 b.1).getD 0) y x)
    (fun a b d h1 h2 => by
      simp only [Bool.not_eq_true'] at *
      exact hS.ntrans d b a h2 h1)
    (fun a b => by
      simp only [Bool.or_eq_true, Bool.not_eq_true']
      by_cases hb : (ltOf fun (a b : {x // x ∈ xs}) => (c a.1 b.1).getD 0) b a = true
      · right
        by_cases ha : (ltOf fun (a b : {x // x ∈ xs}) => (c a.1 b.1).getD 0) a b = true
        · have := hS.trans a b a ha hb; rw [hS.irrefl] at this; simp at this
        · simpa using ha
      · left; simpa using hb) xs.attach
  refine this.imp fun {a b} hab z hz => ?_
  simp only [Bool.not_eq_true', ltOf, hz, Option.getD_some, decide_eq_false_iff_not] at hab
  exact hab
section
variable {P : Program}
theorem Pure.toM {f : FuncId} {vs : List Value} {Φ : List (World → Prop)} {γ : Type} {V : γ → Value} {RW : γ → List RowD} (h : Pure P f vs Φ γ V RW (fun _ => [])) : PureM P f vs [] [] Φ γ V (fun _ => []) RW := by
  intro w hp
  refine (h w hp).mono fun e w' ⟨g, h1, h2⟩ => ⟨g, h1, ?_⟩
  exact { keep := h2.keep, blk := by simp, rows := h2.rows, nodup := h2.nodup, fresh := fun k hk => .inr (h2.fresh k hk), per := by simp }
theorem qcP {α : Type} [Inhabited α] {enc : α → List Value} {k : Nat} (henc : EncOk enc k) (xs : List α) : (flatK enc k xs.toArray).toList = xs.flatMap enc := by
  have hl : (xs.flatMap enc).length = xs.length * k := zn henc xs
  apply List.ext_getElem?
  intro t
  by_cases ht : t < xs.length * k
  · have hk0 : 0 < k := by
      rcases Nat.eq_zero_or_pos k with h | h
      · subst h; simp at ht
      · exact h
    have hq : t / k < xs.length := Nat.div_lt_of_lt_mul (by rw [Nat.mul_comm]; exact ht)
    have hr : t % k < k := Nat.mod_lt _ hk0
    have e : t / k * k + t % k = t := by rw [Nat.mul_comm]; exact Nat.div_add_mod t k
    have hr' : t % k < (enc xs[t / k]).length := by rw [henc.len]; exact hr
    have h1 := ka henc xs (t / k) xs[t / k] (t % k) _ (List.getElem?_eq_getElem hq) (List.getElem?_eq_getElem hr')
    rw [e] at h1
    rw [h1, Array.getElem?_toList]
    have h2 := get_flatK enc k xs.toArray t (by simpa using ht)
    rw [Array.getElem?_eq_getElem (by simpa using ht)]
    rw [getElem!_pos _ t (by simpa using ht)] at h2
    rw [h2]
    congr 1
    have e3 : xs.toArray[t / k]! = xs[t / k] := by rw [getElem!_pos _ _ (by simpa using hq)]; simp
    rw [e3, getElem!_pos (enc xs[t / k]) (t % k) hr']
  · rw [List.getElem?_eq_none (by simp; omega), List.getElem?_eq_none (by omega)]
theorem keepsC {BC : List BlkD} {W w' : World} {F : List (World → Prop)} (h1 : ∀ b ∈ BC, b.is W) (h : Hp (muts BC []) W w' BC [] F) : Keeps [] W w' := by
  refine ⟨h.keep.os, h.keep.tape, h.keep.output, h.keep.size, fun k hk _ => ?_, h.keep.drawn⟩
  by_cases hm : k ∈ muts BC []
  · simp only [muts, List.flatMap_nil, List.append_nil] at hm
    obtain ⟨b, hb, rfl⟩ := List.mem_map.1 hm
    rw [show w'.heap[b.g]? = some b.obj from h.blk b hb, show W.heap[b.g]? = some b.obj from h1 b hb]
  · exact h.keep.block k hk hm
theorem qeh {α : Type} [DecidableEq α] {enc : α → List Value} {f g : FuncId} {k : Nat} {e : TypeId} {a : Option Addr} {c : Nat} {xs r : List α} {cb : List Value} {BC : List BlkD} {Φ : List (World → Prop)} {arg : List Value → Value} {cmp : α → α → Option Int} (henc : EncOk enc k) (_hk0 : k ≠ 0)
    (hs : qdj P f g k arg cb.toArray) (hn : ∀ (p : Option Addr) (cap : Nat) (w : World), Calls P f #[.slice p 0 cap, .func (.func g) #[] cb.toArray] w fun e w' => e = .returned (.tuple #[]) ∧ w' = w)
    (hC : ∀ x y z, cmp x y = some z → PureM P g ([arg (enc x), arg (enc y)] ++ cb) BC [] Φ Unit (fun _ => .int .i64 z) (fun _ => BC) (fun _ => [])) (hr : sortF cmp xs = some r) :
    PureM P f [.slice a xs.length c, .func (.func g) #[] cb.toArray] BC [Ro enc e k (.slice a xs.length c) xs] Φ Unit (fun _ => .tuple #[]) (fun _ => BC) (fun _ => [Ro enc e k (.slice a r.length c) r]) := by
  intro w hp
  unfold sortF at hr
  split at hr
  · rename_i hok
    obtain ⟨hok, hlen⟩ := hok
    replace hok := qcI.1 hok
    simp only [Option.some.injEq] at hr
    have hrl : r.length = xs.length := by rw [← hr, qeg]
    have hown := hp.row _ (List.mem_singleton.2 rfl)
    have hp0 : Hp (muts BC [Ro enc e k (.slice a xs.length c) xs]) w w BC [Ro enc e k (.slice a xs.length c) xs] [] := hp.weaken (List.Sublist.refl _) (List.Sublist.refl _) (fun φ h => by simp at h)
    have hnil : xs = [] → Calls P f #[.slice a xs.length c, .func (.func g) #[] cb.toArray] w fun e' w' => ∃ _ : Unit, e' = .returned (.tuple #[]) ∧ Hp (muts BC [Ro enc e k (.slice a xs.length c) xs]) w w' BC [Ro enc e k (.slice a r.length c) r] [] := by
      intro hx
      subst hx
      have hr0 : r = [] := List.length_eq_zero_iff.1 (by simpa using hrl)
      subst hr0
      exact (hn a c w).mono (fun e' w' ⟨h1, h2⟩ => ⟨(), h1, by rw [h2]; exact hp0⟩)
    by_cases hx : xs = []
    · exact hnil hx
    rcases hown.2 with ⟨h5, h6⟩ | ⟨g0, cap, cur, h5, _, hgg, hnc, hcm, hcs, htake⟩
    · have h6' : xs.length = 0 := h6
      exact absurd (List.length_eq_zero_iff.1 h6') hx
    · have h5' : Value.slice a xs.length c = .slice (some ⟨g0, 0, none⟩) xs.length cap := h5
      simp only [Value.slice.injEq, true_and] at h5'
      obtain ⟨rfl, rfl⟩ := h5'
      have hgg' : w.heap[g0]? = some (.cells cur e (0, 0)) := hgg
      have htake' : cur.toList.take (xs.length * k) = xs.flatMap enc := htake
      have hcs' : cur.size = c * k := hcs
      have hnc' : xs.length ≤ c := hnc
      have hmul : xs.length * k ≤ c * k := Nat.mul_le_mul_right _ hnc'
      have hlt := (Array.getElem?_eq_some_iff.1 hgg').1
      obtain ⟨x0, hx0⟩ := List.exists_mem_of_ne_nil xs hx
      haveI : Inhabited {x // x ∈ xs} := ⟨⟨x0, hx0⟩⟩
      have henc' : EncOk (fun x : {x // x ∈ xs} => enc x.1) k := ⟨fun x => henc.len x.1, fun x => henc.ok x.1⟩
      have hfa : xs.attach.flatMap (fun x : {x // x ∈ xs} => enc x.1) = xs.flatMap enc := by
        have : xs.flatMap enc = (xs.attach.map (·.1)).flatMap enc := by simp
        rw [this, List.flatMap_map]
      have hd : xs.attach.toArray.size = xs.length := by simp
      have hdis : ∀ b ∈ BC, b.g ≠ g0 := by
        intro b hb he
        have hnd := hp.nodup
        unfold muts at hnd
        rw [List.nodup_append] at hnd
        refine hnd.2.2 b.g (List.mem_map.2 ⟨b, hb, rfl⟩) g0 ?_ he
        rw [List.flatMap_cons, List.flatMap_nil, List.append_nil]
        exact RowD.blocks_v rfl
      have hmain := hs {x // x ∈ xs} (fun x => enc x.1) henc'.len (fun x v hv => by have := henc.ok x.1; exact List.all_eq_true.1 this v hv) (fun a b => (cmp a.1 b.1).getD 0) hok.2.1 (fun x y h1 h2 => Subtype.ext (hok.2.2 x.1 x.2 y.1 y.2 h1 h2)) g0 c xs.attach.toArray w
        (fun W hW x y => by
          obtain ⟨m, os, A, hA, hW⟩ := hW
          obtain ⟨z, hz⟩ := hok.1 x.1 x.2 y.1 y.2
          have hkW : Keeps [g0] w W := by rw [hW]; exact qaq
          have hpW : Hp (muts BC []) W W BC [] Φ := by
            refine { keep := Keeps.refl _ _, blk := fun b hb => k9 (hp.blk b hb) hkW (by simpa using hdis b hb), rows := by simp, nodup := ?_, fresh := fun _ hg => .inl hg, per := fun φ hφ => ?_ }
            · exact hp.nodup.sublist (by unfold muts; exact (List.Sublist.refl _).append (List.nil_sublist _))
            · refine (hp.per φ hφ).step (hkW.wider ?_) fun q hq => .inl ?_
              · intro q hq
                simp only [List.mem_singleton] at hq
                subst hq
                refine List.mem_append.2 (.inr ?_)
                rw [List.flatMap_cons, List.flatMap_nil, List.append_nil]
                exact RowD.blocks_v rfl
              · unfold muts at hq ⊢
                rw [List.flatMap_nil, List.append_nil] at hq
                exact List.mem_append.2 (.inl hq)
          have hcall := hC x.1 y.1 z hz W hpW
          have e1 : ([arg (enc x.1), arg (enc y.1)] ++ cb).toArray = #[arg (enc x.1), arg (enc y.1)] ++ cb.toArray := by simp
          rw [e1] at hcall
          refine hcall.mono fun e' w' ⟨_, h1, h2⟩ => ⟨by rw [h1, hz]; rfl, ?_⟩
          exact (keepsC hpW.blk h2).grown)
        (fun j hj => by
          have hj' : j < xs.length * k := by simpa using hj
          have h1 : (flatK (fun x : {x // x ∈ xs} => enc x.1) k xs.attach.toArray).toList = cur.toList.take (xs.length * k) := by rw [qcP henc' xs.attach, hfa, htake']
          have h2 : cur[j]? = some ((flatK (fun x : {x // x ∈ xs} => enc x.1) k xs.attach.toArray)[j]!) := by
            have h3 := congrArg (fun l => l[j]?) h1
            simp only [List.getElem?_take_of_lt hj', Array.getElem?_toList] at h3
            rw [← h3, getElem!_pos _ j hj, Array.getElem?_eq_getElem hj]
          refine ⟨?_, ?_⟩
          · rw [Nat.zero_add]
            simp [World.cell?, hgg', h2]
          · simp [World.frozen?, hgg'])
        hlt (by rw [hd]; exact hlen)
      rw [hd] at hmain
      refine hmain.mono fun e' w' ⟨h1, q, os, h2⟩ => ⟨(), h1, ?_⟩
      subst h2
      have hflat : (flatK (fun x : {x // x ∈ xs} => enc x.1) k (xs.attach.toArray.toList.mergeSort fun x y => !(ltOf fun (a b : {x // x ∈ xs}) => (cmp a.1 b.1).getD 0) y x).toArray).toList = r.flatMap enc := by
        rw [qcP henc', ← hr]
        unfold jB
        rw [List.flatMap_map]
      generalize hA : flatK (fun x : {x // x ∈ xs} => enc x.1) k (xs.attach.toArray.toList.mergeSort fun x y => !(ltOf fun (a b : {x // x ∈ xs}) => (cmp a.1 b.1).getD 0) y x).toArray = A at hflat
      have hAs : A.size = xs.length * k := by
        have := congrArg List.length hflat
        rw [zn henc r, hrl] at this
        simpa using this
      refine hp0.swapRow (i := 0) rfl ?_ (.inl ⟨rfl, qaq⟩)
      have hz : ((putRow id (ahead w q) g0 0 A).heap ++ os)[g0]? = some (.cells (putCells id 0 A cur) e (0, 0)) := by
        have h3 := qeb (w := ahead w q) (A := A) hgg'
        rw [Array.getElem?_append_left ((Array.getElem?_eq_some_iff.1 h3).1)]
        exact h3
      refine ⟨zn henc r, .inr ⟨g0, c, _, rfl, Nat.zero_le _, hz, ?_, hcm, ?_, ?_⟩⟩
      · show r.length ≤ c; rw [hrl]; exact hnc'
      · show _ = c * k; simp [putCells, hcs']
      · show (putCells id 0 A cur).toList.take (r.length * k) = r.flatMap enc
        rw [hrl, ← hAs, qea (by omega), hflat]
  · simp at hr
theorem qgf {α : Type} [DecidableEq α] {c : α → α → Option Int} {xs zs : List α} {lt : α → α → Prop} (hc : ∀ a ∈ xs, ∀ b ∈ xs, ∃ z, c a b = some z ∧ (z < 0 ↔ lt a b))
    (hi : ∀ a, ¬ lt a a) (ht : ∀ a b d, lt a b → lt b d → lt a d) (hto : ∀ a b, lt a b ∨ a = b ∨ lt b a) (hl : xs.length < 4611686018427387904) (hp : zs.Perm xs) (hs : zs.Pairwise fun a b => ¬ lt b a) : sortF c xs = some zs := by
  have hlt : ∀ a ∈ xs, ∀ b ∈ xs, ((c a b).getD 0 < 0 ↔ lt a b) := fun a ha b hb => by
    obtain ⟨z, h1, h2⟩ := hc a ha b hb
    rw [h1]; exact h2
  have hok : CmpOk c xs := by
    refine ⟨fun a ha b hb => by obtain ⟨z, h1, _⟩ := hc a ha b hb; exact ⟨z, h1⟩, ⟨fun x => ?_, fun x y z h1 h2 => ?_, fun x y z h1 h2 => ?_⟩, fun a ha b hb h1 h2 => ?_⟩
    · simp only [ltOf, decide_eq_false_iff_not]; rw [hlt _ x.2 _ x.2]; exact hi _
    · simp only [ltOf, decide_eq_true_eq] at *; rw [hlt _ x.2 _ y.2] at h1; rw [hlt _ y.2 _ z.2] at h2; rw [hlt _ x.2 _ z.2]; exact ht _ _ _ h1 h2
    · simp only [ltOf, decide_eq_false_iff_not] at *; rw [hlt _ x.2 _ y.2] at h1; rw [hlt _ y.2 _ z.2] at h2; rw [hlt _ x.2 _ z.2]
      intro h3
      rcases hto x.1 y.1 with h | h | h
      · exact h1 h
      · rw [h] at h3; exact h2 h3
      · exact h2 (ht _ _ _ h h3)
    · simp only [ltOf, decide_eq_false_iff_not] at *; rw [hlt _ ha _ hb] at h1; rw [hlt _ hb _ ha] at h2
      rcases hto a b with h | h | h
      · exact absurd h h1
      · exact h
      · exact absurd h h2
  unfold sortF
  rw [if_pos ⟨qcI.2 hok, hl⟩]
  congr 1
  have hp2 := qdD c xs
  refine List.Perm.eq_of_pairwise (le := fun a b => ¬ lt b a) (fun a b _ _ h1 h2 => ?_) ?_ hs (hp2.trans hp.symm)
  · rcases hto a b with h | h | h
    · exact absurd h h2
    · exact h
    · exact absurd h h1
  · refine (qeJ hok).imp_of_mem fun {a b} ha hb h => ?_
    have ha' := hp2.mem_iff.1 ha
    have hb' := hp2.mem_iff.1 hb
    obtain ⟨z, h1, h2⟩ := hc b hb' a ha'
    exact fun h3 => h z h1 (h2.2 h3)
end
end SX
namespace SX
open Go Go.ChangeShapes Go.WideShapes Go.ChangeAt Go.RowKit Go.Joins Go.Deep
variable {H : Type} {enc : TypeId × Value → H} {P : Program}
theorem qfl {W : World} {base : Nat} {t : TypeId} {ts : List TypeId} {fs : Array Field} {cs : Array Value} (hs : P.underlying t = some (.struct fs)) (hts : P.cellTypes P.depth t = some ts) (hv : Value.okWide P W .any base t (.agg cs)) :
    ∀ i v u, i < ts.length → cs[i]? = some v → ts[i]? = some u → Cell.okWide P W .any base u v := by
  unfold Value.okWide at hv
  rw [hs] at hv
  obtain ⟨cs', he, _, ts', h1, _, h2⟩ := hv
  cases he
  rw [hts] at h1
  cases h1
  intro i v u hi hc hu
  obtain ⟨u', h3, h4⟩ := h2 i v hc
  rw [Nat.mod_eq_of_lt hi, hu] at h3
  cases h3
  exact h4
end SX
namespace SX
open Go Go.ChangeShapes Go.WideShapes Go.ChangeAt Go.RowKit Go.Joins Go.Deep
variable {H : Type} {enc : TypeId × Value → H} {P : Program}
theorem qeT {w : World} {base : Nat} {spare : Nat → Bool} {held : Bool} {t : TypeId} {fs : Array Field} {fuel : Nat} {cs cs' : List Value} {x : DataW H × List MemPlace} {i k : Nat} {f : Field} (ht : P.underlying t = some (.struct fs)) (hi : fs[i]? = some f) (hk : P.cellsOf f.type = k) (hc : (cs.drop f.offset).take k = cs') (h : DataW.trod enc P w base spare held fuel t cs = some x) :
    ∃ n y, DataW.trod enc P w base spare held n f.type cs' = some y := by
  obtain ⟨xs, n, _, rfl, hl, hlen, hf⟩ := DataW.trod_struct ht h
  have h1 := hf i f hi
  obtain ⟨hlt, _⟩ := Array.getElem?_eq_some_iff.1 hi
  have hlt' : i < xs.length := by omega
  refine ⟨n, xs[i], ?_⟩
  rw [← hc, ← hk, h1, List.getElem?_eq_getElem hlt']
theorem arr1 {α : Type} {cs : Array α} (h : cs.size = 1) : ∃ c0, cs = #[c0] := by
  obtain ⟨l⟩ := cs
  match l, h with
  | [c0], _ => exact ⟨c0, rfl⟩
end SX
namespace SX
open Go Go.ChangeShapes Go.WideShapes Go.ChangeAt Go.RowKit Go.Joins Go.Deep
theorem qbt {α : Type} {enc : α → List Value} {size : Nat} (h : EncOk enc size) (h0 : 0 < size) : ∀ (xs : List α) (j : Nat) (u : Value), (xs.flatMap enc)[j]? = some u → ∃ x, xs[j / size]? = some x ∧ (enc x)[j % size]? = some u
  | [], j, u, hj => by simp at hj
  | x :: xs, j, u, hj => by
    rw [List.flatMap_cons] at hj
    by_cases hlt : j < size
    · rw [List.getElem?_append_left (by rw [h.len]; exact hlt)] at hj
      exact ⟨x, by rw [Nat.div_eq_of_lt hlt]; rfl, by rw [Nat.mod_eq_of_lt hlt]; exact hj⟩
    · rw [List.getElem?_append_right (by rw [h.len]; omega), h.len] at hj
      obtain ⟨y, h1, h2⟩ := qbt h h0 xs (j - size) u hj
      have e1 : j / size = (j - size) / size + 1 := by
        rw [← Nat.add_div_right _ h0]; congr 1; omega
      have e2 : j % size = (j - size) % size := Nat.mod_eq_sub_mod (by omega)
      exact ⟨y, by rw [e1, List.getElem?_cons_succ]; exact h1, by rw [e2]; exact h2⟩
variable {H : Type} {enc : TypeId × Value → H} {P : Program}
theorem qfm {α : Type} {enc' : α → List Value} {good : α → Prop} {size : Nat} (henc : EncOk enc' size) (h0 : 0 < size) {W : World} {base : Nat} {t e : TypeId} {v : Value} {d : DataW H} {p : List MemPlace} (ht : P.underlying t = some (.slice e)) (hc : P.cellsOf e = size)
    (hopen : ∀ n cs y, DataW.trod enc P W 0 (fun _ => true) true n e cs = some y → cs.length = size → ∃ x : α, cs = enc' x ∧ good x)
    (hval : Value.okWide P W .any base t v) (h : DataW.Trod enc P W 0 (fun _ => true) true t v d p) :
    ∃ (a : Option Addr) (cap : Nat) (xs : List α), v = .slice a xs.length cap ∧ Nec W [] (Sl enc' size v xs) ∧ (∀ x ∈ xs, good x) ∧ xs.length ≤ maxLen := by
  obtain ⟨a0, len0, cap0, rfl⟩ := okWide_slice ht hval
  obtain ⟨fuel, hf⟩ := h
  rcases open_slice ht hf with ⟨hcs, _⟩ | ⟨a, len, cap, m, n, D, Pl, hcs, _, hle, hmax, hmm, _, hx⟩
  · simp [Value.cells] at hcs
    obtain ⟨rfl, rfl, rfl⟩ := hcs
    refine ⟨none, 0, [], rfl, jR ⟨⟨none, 0, rfl, Nat.le_refl _, by simp, by simp, fun j u hj => by simp at hj⟩, by simp⟩ (by simp), by simp, by simp⟩
  · simp [Value.cells] at hcs
    obtain ⟨rfl, rfl, rfl⟩ := hcs
    simp only [if_true] at hmm
    subst hmm
    have hspot : a.spot = none := by
      have hv : Cell.okWide P W .any base t (.slice (some a) len0 m) := by
        unfold Value.okWide at hval
        rw [ht] at hval
        exact hval
      unfold Cell.okWide Cell.ok at hv
      rw [ht] at hv
      simp only at hv
      exact hv.2.2.2.1
    have each : ∀ i, i < m → ∃ x : α, W.cells? 0 (a.add (i * size)) size = some (enc' x) ∧ good x := by
      intro i hi
      obtain ⟨cs', h1, h2⟩ := hx i hi
      rw [hc] at h1
      obtain ⟨x, rfl, hg⟩ := hopen n cs' _ h2 (World.cells?_some h1).2.1
      exact ⟨x, h1, hg⟩
    by_cases hm0 : m = 0
    · subst hm0
      have hl0 : len0 = 0 := by omega
      subst hl0
      refine ⟨some a, 0, [], rfl, jR ⟨⟨some a, 0, rfl, Nat.le_refl _, by simp, fun ad e => by cases e; exact .inr hspot, fun j u hj => by simp at hj⟩, by simp⟩ (fun ad l c e hne => absurd rfl hne), by simp, by simp⟩
    · obtain ⟨x0, _⟩ := each 0 (by omega)
      haveI : Inhabited α := ⟨x0⟩
      obtain ⟨X, hX⟩ := choose_lt each
      have hL : ((List.range len0).map X).length = len0 := by simp
      have hcell : ∀ j u, (((List.range len0).map X).flatMap enc')[j]? = some u → W.cell? ⟨a.block, a.off + j, none⟩ = some u := by
        intro j u hj
        obtain ⟨x, h1, h2⟩ := qbt henc h0 _ j u hj
        rw [List.getElem?_map] at h1
        cases hr : (List.range len0)[j / size]? with
        | none => rw [hr] at h1; simp at h1
        | some i =>
          rw [hr] at h1
          simp only [Option.map_some, Option.some.injEq] at h1
          subst h1
          have hi := (List.getElem?_eq_some_iff.1 hr)
          obtain ⟨hi1, hi2⟩ := hi
          simp only [List.length_range] at hi1
          simp only [List.getElem_range] at hi2
          subst hi2
          obtain ⟨_, _, hcl⟩ := World.cells?_some (hX (j / size) (by omega)).1
          have hmod : j % size < size := Nat.mod_lt _ h0
          have := hcl (j % size) hmod
          rw [h2] at this
          rw [v6 _ _ hspot, vA] at this
          rw [← this]
          congr 2
          rw [Nat.add_assoc, Nat.div_add_mod' j size]
      refine ⟨some a, m, (List.range len0).map X, by rw [hL], ?_, ?_, by rw [hL]; omega⟩
      · refine jR ⟨⟨some a, m, by rw [hL], by rw [hL]; exact hle, hmax, fun ad e => by cases e; exact .inr hspot, fun j u hj => ⟨a, rfl, hcell j u hj⟩⟩, zn henc _⟩ fun ad l c e hne => ?_
        cases e
        have hpos : 0 < (((List.range len0).map X).flatMap enc').length := List.length_pos_iff.2 hne
        have := hcell 0 _ (List.getElem?_eq_getElem hpos)
        unfold World.cell? at this
        cases hh : W.heap[a.block]? with
        | none => simp only [hh] at this; simp at this
        | some o => exact (Array.getElem?_eq_some_iff.1 hh).1
      · intro x hx'
        obtain ⟨i, hi, rfl⟩ := List.mem_map.1 hx'
        exact (hX i (by have := List.mem_range.1 hi; omega)).2
end SX
namespace SX
open Go Go.ChangeShapes Go.WideShapes Go.ChangeAt Go.RowKit Go.Joins Go.Deep
variable {H : Type} {enc : TypeId × Value → H} {P : Program}
theorem qeE {W : World} {base n : Nat} {t e e2 : TypeId} {k : IntKind} {v : Value} {y : DataW H × List MemPlace} {en : List Int × (Option Addr × Nat) → List Value} {inn : List Int × (Option Addr × Nat) → List (World → Prop)} (henc : EncOk en 1) (hen : ∀ p, en p = [.slice p.2.1 p.1.length p.2.2]) (hin : ∀ p, inn p = [Sl (eI k) 1 (.slice p.2.1 p.1.length p.2.2) p.1])
    (ht : P.underlying t = some (.slice e)) (he : P.underlying e = some (.slice e2)) (he2 : P.underlying e2 = some (.int k)) (hc1 : P.cellsOf e = 1) (hc2 : P.cellsOf e2 = 1) (hc : Cell.okWide P W .any base t v)
    (h : DataW.trod enc P W 0 (fun _ => true) true n t [v] = some y) :
    ∃ (a : Option Addr) (cap : Nat) (xs : List (List Int)) (gs : List (Option Addr × Nat)), v = .slice a xs.length cap ∧ Nec W [] (SlN en inn 1 (.slice a xs.length cap) xs gs) ∧ (∀ l ∈ xs, (∀ n ∈ l, (Lit.int k n).wf = true) ∧ l.length ≤ maxLen) ∧ xs.length ≤ maxLen := by
  have o1 : Value.okWide P W .any base t v := by unfold Value.okWide; rw [ht]; exact hc
  have vc : v.cells = #[v] := by
    obtain ⟨a, l, c, rfl⟩ := okWide_slice ht o1
    rfl
  have hopen : ∀ n cs y, DataW.trod enc P W 0 (fun _ => true) true n e cs = some y → cs.length = 1 → ∃ x : List Int × (Option Addr × Nat), cs = en x ∧ (Nec W [] (Sl (eI k) 1 (.slice x.2.1 x.1.length x.2.2) x.1) ∧ (∀ n ∈ x.1, (Lit.int k n).wf = true) ∧ x.1.length ≤ maxLen) := by
    intro n cs y hy hl
    match cs, hl with
    | [c0], _ =>
      rcases open_ints he he2 hc2 hy with ⟨hcs, _⟩ | ⟨a, len, cap, zs, hcs, _, hle, hmax, hlen, _, hcell, hwf⟩
      · simp only [List.cons.injEq, and_true] at hcs
        subst hcs
        exact ⟨([], (none, 0)), by rw [hen]; rfl, jR ⟨⟨none, 0, rfl, Nat.le_refl _, by simp, by simp, fun j u hj => by simp at hj⟩, by simp⟩ (by simp), by simp, by simp⟩
      · simp only [List.cons.injEq, and_true] at hcs
        subst hcs
        simp only [if_true] at hlen
        have hL : (zs.take len).length = len := by rw [List.length_take]; omega
        have hfm : ∀ (l : List Int), l.flatMap (eI k) = l.map (fun x => Value.int k x) := by
          intro l
          induction l with
          | nil => rfl
          | cons x l ih => simp [eI, ih]
        have hspot : zs ≠ [] → a.spot = none := by
          intro hne
          obtain ⟨z, zs', rfl⟩ := List.exists_cons_of_ne_nil hne
          have := hcell 0 (by simp)
          unfold World.cell? at this
          have e0 : (a.add 0).spot = a.spot := by simp [Addr.add]
          cases hh : W.heap[(a.add 0).block]? with
          | none => rw [hh] at this; simp at this
          | some o =>
            rw [hh] at this
            cases o with
            | cells c _ _ =>
              simp only [e0] at this
              cases hs : a.spot with
              | none => rfl
              | some q => rw [hs] at this; simp at this
            | _ => simp at this
        have hj0 : ∀ j u, ((zs.take len).flatMap (eI k))[j]? = some u → W.cell? ⟨a.block, a.off + j, none⟩ = some u := by
          intro j u hj
          rw [hfm, List.getElem?_map] at hj
          cases hz : (zs.take len)[j]? with
          | none => rw [hz] at hj; simp at hj
          | some x =>
            rw [hz] at hj
            simp only [Option.map_some, Option.some.injEq] at hj
            subst hj
            have hj1 := (List.getElem?_eq_some_iff.1 hz).1
            have hj2 : j < zs.length := by rw [List.length_take] at hj1; omega
            have hne : zs ≠ [] := by rintro rfl; simp at hj2
            have := hcell j hj2
            have hx : zs.getD j 0 = x := by
              rw [List.getElem?_take_of_lt (by rw [List.length_take] at hj1; omega)] at hz
              simp [List.getD, hz]
            rw [hx, v6 _ _ (hspot hne)] at this
            exact this
        refine ⟨(zs.take len, (some a, cap)), by rw [hen, hL], ?_, fun n hn => hwf n (List.mem_of_mem_take hn), by show (zs.take len).length ≤ _; rw [hL]; omega⟩
        refine jR ⟨⟨some a, cap, rfl, by show (zs.take len).length ≤ cap; rw [hL]; exact hle, hmax, fun ad e => ?_, fun j u hj => ⟨a, rfl, hj0 j u hj⟩⟩, by rw [hfm]; simp⟩ fun ad l c e hne => ?_
        · cases e
          by_cases hz : (zs.take len).flatMap (eI k) = []
          · exact .inl hz
          · exact .inr (hspot (by rintro rfl; simp at hz))
        · cases e
          have hpos := List.length_pos_iff.2 hne
          have := hj0 0 _ (List.getElem?_eq_getElem hpos)
          unfold World.cell? at this
          cases hh : W.heap[a.block]? with
          | none => simp only [hh] at this; simp at this
          | some o => exact (Array.getElem?_eq_some_iff.1 hh).1
  obtain ⟨a, cap, ps, hv, hs, hg, hm⟩ := qfm (good := fun x : List Int × (Option Addr × Nat) => Nec W [] (Sl (eI k) 1 (.slice x.2.1 x.1.length x.2.2) x.1) ∧ (∀ n ∈ x.1, (Lit.int k n).wf = true) ∧ x.1.length ≤ maxLen) henc (by decide) ht hc1 hopen o1 (d := y.1) (p := y.2) ⟨n, by rw [vc]; exact h⟩
  have hz : (ps.map (·.1)).zip (ps.map (·.2)) = ps := by
    have : ∀ ps : List (List Int × (Option Addr × Nat)), (ps.map (·.1)).zip (ps.map (·.2)) = ps := by
      intro ps
      induction ps with
      | nil => rfl
      | cons p ps ih => rw [List.map_cons, List.map_cons, List.zip_cons_cons, ih]
    exact this ps
  refine ⟨a, cap, ps.map (·.1), ps.map (·.2), by rw [List.length_map]; exact hv, fun w' hk => ⟨by simp, ?_, fun p hp φ hφ => ?_⟩, fun l hl => ?_, by rw [List.length_map]; exact hm⟩
  · rw [hz, List.length_map, ← hv]
    exact hs w' hk
  · rw [hz] at hp
    rw [hin] at hφ
    simp only [List.mem_singleton] at hφ
    subst hφ
    exact (hg p hp).1 w' hk
  · obtain ⟨p, hp, rfl⟩ := List.mem_map.1 hl
    exact (hg p hp).2
end SX
namespace SX
open Go Go.ChangeShapes Go.WideShapes Go.ChangeAt Go.RowKit Go.Joins Go.Deep
variable {H : Type} {enc : TypeId × Value → H} {P : Program}
end SX
namespace SX
open Go
theorem qcq {n : Int} (h1 : -9223372036854775808 ≤ n) (h2 : n < 9223372036854775808) : IntKind.wrap .i64 n = n := by
  unfold IntKind.wrap
  simp only [IntKind.bits, IntKind.signed]
  simp only [show (2 ^ 64 : Int) = 18446744073709551616 from by decide, show (2 ^ (64 - 1) : Int) = 9223372036854775808 from by decide]
  split
  · rename_i h; simp at h; omega
  · rename_i h; simp at h; omega
theorem qhB {n : Int} (h1 : 0 ≤ n) (h2 : n < 256) : IntKind.wrap .u8 n = n := by
  unfold IntKind.wrap
  simp only [IntKind.bits, IntKind.signed]
  simp only [show (2 ^ 8 : Int) = 256 from by decide, Bool.false_and, Bool.false_eq_true, if_false]
  omega
theorem qa5 {a b : Int} (h1 : -9223372036854775808 ≤ a + b) (h2 : a + b < 9223372036854775808) : iadd .i64 a b = a + b := qcq h1 h2
theorem qd4 {a b : Int} (h1 : -9223372036854775808 ≤ a - b) (h2 : a - b < 9223372036854775808) : isub .i64 a b = a - b := qcq h1 h2
theorem zO {α : Type} (xs : List α) (i : Nat) : idx xs (i : Int) = xs[i]? := by simp [idx]
theorem kM {α : Type} {lim : Nat} {xs ys : List α} (h : xs.length + ys.length ≤ lim) : app lim xs ys = some (xs ++ ys) := by simp [app, h]
theorem qcQ {x : Int} (h : (Lit.int .i64 x).wf = true) : -9223372036854775808 ≤ x ∧ x < 9223372036854775808 := by
  simp [Lit.wf, IntKind.min, IntKind.max, IntKind.signed, IntKind.bits] at h
  exact ⟨by omega, by omega⟩
end SX
namespace SX
open Go
class UnF (P : Program) (t : TypeId) (d : outParam TypeDesc) : Prop where
  u : P.underlying t = some d
class EnC (P : Program) (f : FuncId) : Prop where
  e : Enters P f
structure Stp (p : List Nat) (A : Prop) : Prop where
  go : A
structure Stq (p : List Nat) (A : Prop) : Prop where
  go : A
theorem stp0 {A : Prop} (h : A) : Stp [] A := ⟨h⟩
theorem sta (c : Nat) {p : List Nat} {A : Prop} (h : Stq p A) : Stq (c :: p) A := ⟨h.go⟩
theorem stc (c : Nat) {p : List Nat} {A : Prop} (h : Stq p A) : Stp (c :: p) A := ⟨h.go⟩
theorem stk {p : List Nat} {A A' : Prop} (f : A' → A) (h : Stp p A') : Stq p A := ⟨f h.go⟩
theorem stz {A : Prop} (h : A) : Stq [] A := ⟨h⟩
structure Stv (p : List Nat) (B A : Prop) : Prop where
  go : B → A
section
variable {P : Program} {ro : Option Nat} {n : Nat} {D : List Deferred} {M0 : List Nat} {w0 : World} {Q : Exit → Act → World → Prop} {ρ : Type} {p : List Nat}
variable {ops : Array Oper} {rest : List Oper} {l : Env} {B : List BlkD} {R : List RowD} {F : List (World → Prop)} {m : Option ρ} {r : ρ} {ps : List Nat} {Bs : List BlkD} {Fs : List (World → Prop)} {x y c : Code}
variable {t : TypeId} {pos : String} {af : Array Edge} {gd : Option (Nat × Bool)} {d : Nat}
variable {I' : Env}
theorem lka (h : ∀ p ∈ I', look l p.1 = some p.2 := by (try dsimp only); repeat (first | exact j4 | refine qv rfl ?_)) : ∀ p ∈ I', look l p.1 = some p.2 := h
theorem pka {α : Type} {R R' : List α} (h : Pick R R' := by (try dsimp only); repeat (first | exact .nil | refine .cons 0 rfl ?_ | refine .cons 1 rfl ?_ | refine .cons 2 rfl ?_ | refine .cons 3 rfl ?_ | refine .cons 4 rfl ?_ | refine .cons 5 rfl ?_ | refine .cons 6 rfl ?_ | refine .cons 7 rfl ?_ | refine .cons 8 rfl ?_ | refine .cons 9 rfl ?_ | refine .cons 10 rfl ?_ | refine .cons 11 rfl ?_)) : Pick R R' := h
theorem tka {α : Type} {R R' S : List α} (h : Takes R R' S := by repeat (first | exact .nil | apply Takes.cons 0 rfl | apply Takes.cons 1 rfl | apply Takes.cons 2 rfl | apply Takes.cons 3 rfl | apply Takes.cons 4 rfl | apply Takes.cons 5 rfl | apply Takes.cons 6 rfl | apply Takes.cons 7 rfl | apply Takes.cons 8 rfl | apply Takes.cons 9 rfl | apply Takes.cons 10 rfl | apply Takes.cons 11 rfl)) : Takes R R' S := h
theorem fka {F' : List (World → Prop)} (h : ∀ φ ∈ F', φ ∈ F := by (try dsimp only); repeat (first | exact yA | refine qz 0 rfl ?_ | refine qz 1 rfl ?_ | refine qz 2 rfl ?_ | refine qz 3 rfl ?_ | refine qz 4 rfl ?_ | refine qz 5 rfl ?_ | refine qz 6 rfl ?_ | refine qz 7 rfl ?_ | refine qz 8 rfl ?_ | refine qz 9 rfl ?_ | refine qz 10 rfl ?_ | refine qz 11 rfl ?_ | refine qz 12 rfl ?_ | refine qz 13 rfl ?_ | refine qz 14 rfl ?_ | refine qz 15 rfl ?_ | refine qz 16 rfl ?_ | refine qz 17 rfl ?_)) : ∀ φ ∈ F', φ ∈ F := h
theorem araR {φ : World → Prop} {Φ : List (World → Prop)} (j : Nat) {rd : RowD} (h : R[j]? = some rd) (e : Cells rd.v rd.n rd.size rd.cs = φ) (ha : Args R F Φ) : Args R F (φ :: Φ) := e ▸ .consR j rd h ha
theorem armR {φ : World → Prop} {Φ : List (World → Prop)} (j : Nat) {rd : RowD} (h : R[j]? = some rd) (e : Cells rd.v rd.n rd.size rd.cs = φ) (ha : ArgsM R F Φ) : ArgsM R F (φ :: Φ) := e ▸ .consR j rd h ha
theorem ara {Φ : List (World → Prop)} (h : Args R F Φ := by repeat (first | exact .nil | refine .consF 0 rfl ?_ | refine .consF 1 rfl ?_ | refine .consF 2 rfl ?_ | refine .consF 3 rfl ?_ | refine .consF 4 rfl ?_ | refine .consF 5 rfl ?_ | refine .consF 6 rfl ?_ | refine .consF 7 rfl ?_ | refine .consF 8 rfl ?_ | refine .consF 9 rfl ?_ | refine .consF 10 rfl ?_ | refine .consF 11 rfl ?_ | refine .consF 12 rfl ?_ | refine .consF 13 rfl ?_ | refine araR 0 rfl rfl ?_ | refine araR 1 rfl rfl ?_ | refine araR 2 rfl rfl ?_ | refine araR 3 rfl rfl ?_ | refine araR 4 rfl rfl ?_ | refine araR 5 rfl rfl ?_ | refine araR 6 rfl rfl ?_ | refine araR 7 rfl rfl ?_ | refine araR 8 rfl rfl ?_ | refine araR 9 rfl rfl ?_ | refine araR 10 rfl rfl ?_ | refine araR 11 rfl rfl ?_ | refine .consG 0 rfl (zT fun _ => rfl) ?_ | refine .consG 1 rfl (zT fun _ => rfl) ?_ | refine .consG 2 rfl (zT fun _ => rfl) ?_ | refine .consG 3 rfl (zT fun _ => rfl) ?_ | refine .consG 4 rfl (zT fun _ => rfl) ?_ | refine .consG 5 rfl (zT fun _ => rfl) ?_ | refine .consG 6 rfl (zT fun _ => rfl) ?_ | refine .consG 7 rfl (zT fun _ => rfl) ?_ | refine .consG 8 rfl (zT fun _ => rfl) ?_ | refine .consG 9 rfl (zT fun _ => rfl) ?_)) : Args R F Φ := h
theorem arma {Φ : List (World → Prop)} (h : ArgsM R F Φ := by repeat (first | exact .nil | refine .consF 0 rfl ?_ | refine .consF 1 rfl ?_ | refine .consF 2 rfl ?_ | refine .consF 3 rfl ?_ | refine .consF 4 rfl ?_ | refine .consF 5 rfl ?_ | refine .consF 6 rfl ?_ | refine .consF 7 rfl ?_ | refine .consF 8 rfl ?_ | refine .consF 9 rfl ?_ | refine .consF 10 rfl ?_ | refine .consF 11 rfl ?_ | refine .consF 12 rfl ?_ | refine .consF 13 rfl ?_ | refine armR 0 rfl rfl ?_ | refine armR 1 rfl rfl ?_ | refine armR 2 rfl rfl ?_ | refine armR 3 rfl rfl ?_ | refine armR 4 rfl rfl ?_ | refine armR 5 rfl rfl ?_ | refine armR 6 rfl rfl ?_ | refine armR 7 rfl rfl ?_ | refine armR 8 rfl rfl ?_ | refine armR 9 rfl rfl ?_ | refine armR 10 rfl rfl ?_ | refine armR 11 rfl rfl ?_ | refine .consG 0 rfl (zT fun _ => rfl) ?_ | refine .consG 1 rfl (zT fun _ => rfl) ?_ | refine .consG 2 rfl (zT fun _ => rfl) ?_ | refine .consG 3 rfl (zT fun _ => rfl) ?_ | refine .consG 4 rfl (zT fun _ => rfl) ?_ | refine .consG 5 rfl (zT fun _ => rfl) ?_ | refine .consG 6 rfl (zT fun _ => rfl) ?_ | refine .consG 7 rfl (zT fun _ => rfl) ?_ | refine .consG 8 rfl (zT fun _ => rfl) ?_ | refine .consG 9 rfl (zT fun _ => rfl) ?_)) : ArgsM R F Φ := h
theorem qcf {fuel : Nat} {done : Array Bool} {i : Nat} {o : Oper} {V : Value} (ho : ops[i]? = some o) (hd : o.dst = some d) (hw : wants ops l o = some true) (hy : Yv P l [] [] o V)
    (h : Stp p (SXB P ro ps n D M0 w0 (kz Q) ops Bs Fs fuel (done.setIfInBounds i true) ((d, V) :: l) B R F m r)) (hk : okP ops ps done i d n = true := by kernel_rfl) : Stq (i :: p) (SXB P ro ps n D M0 w0 (kz Q) ops Bs Fs (fuel + 1) done l B R F m r) := ⟨qo i V ho hd hw hy h.go hk⟩
theorem qce {fuel : Nat} {done : Array Bool} {i : Nat} {o : Oper} {V : Value} (ho : ops[i]? = some o) (hd : o.dst = some d) (hw : wants ops l o = some true) (hy : Yv P l Bs [] o V)
    (h : Stp p (SXB P ro ps n D M0 w0 (kz Q) ops Bs Fs fuel (done.setIfInBounds i true) ((d, V) :: l) B R F m r)) (hk : okP ops ps done i d n = true := by kernel_rfl) : Stq (i :: p) (SXB P ro ps n D M0 w0 (kz Q) ops Bs Fs (fuel + 1) done l B R F m r) := ⟨yu i V ho hd hw hy h.go hk⟩
theorem qhd {fuel : Nat} {done : Array Bool} {i : Nat} {o : Oper} (ho : ops[i]? = some o) (hd : o.dst = some d) (hw : wants ops l o = some false)
    (h : Stp p (SXB P ro ps n D M0 w0 (kz Q) ops Bs Fs fuel (done.setIfInBounds i true) ((d, undef) :: l) B R F m r)) (hk : okP ops ps done i d n = true := by kernel_rfl) : Stq (i :: p) (SXB P ro ps n D M0 w0 (kz Q) ops Bs Fs (fuel + 1) done l B R F m r) := ⟨qgi i ho hd hw h.go hk⟩
theorem qhe {fuel : Nat} {done done' : Array Bool} {i : Nat} {o : Oper} (ho : ops[i]? = some o) (hr : Region.ready .any ops done = [i]) (hdone : done.setIfInBounds i true = done')
    (h : Stp p (SXO P ro n D M0 w0 (Exit.then (fun a w => Sh ps Bs Fs done' w ∧ anyK ro P ops Q (Sh ps Bs Fs) fuel done' a w) Q) ops [o] l B R F m r)) : Stq (i :: p) (SXB P ro ps n D M0 w0 Q ops Bs Fs (fuel + 1) done l B R F m r) := ⟨qgj i ho hr hdone h.go⟩
theorem qf {S : Type} (K : S → Env × List BlkD × List RowD × List (World → Prop) × Option ρ)
    (hx : SXC P ro n D M0 w0 (Exit.then (fun a w => ∃ s, (K s).2.2.2.2 = some r ∧ Fr n D a (K s).1 ∧ Hp M0 w0 w (K s).2.1 (K s).2.2.1 (K s).2.2.2.1) Q) x l B R F m r)
    (hy : ∀ s, SXC P ro n D M0 w0 Q y (K s).1 (K s).2.1 (K s).2.2.1 (K s).2.2.2.1 (K s).2.2.2.2 r) : SXC P ro n D M0 w0 Q (.seq x y) l B R F m r := qen _ _ _ _ _ hx hy
theorem qy {S : Type} (k : Nat) (K : S → Env × List BlkD × List RowD × List (World → Prop) × Option ρ)
    (hx : SXO P ro n D M0 w0 (Exit.then (fun a w => ∃ s, (K s).2.2.2.2 = some r ∧ Fr n D a (K s).1 ∧ Hp M0 w0 w (K s).2.1 (K s).2.2.1 (K s).2.2.2.1) Q) ops (rest.take k) l B R F m r)
    (hy : ∀ s, SXO P ro n D M0 w0 Q ops (rest.drop k) (K s).1 (K s).2.1 (K s).2.2.1 (K s).2.2.2.1 (K s).2.2.2.2 r) : SXO P ro n D M0 w0 Q ops rest l B R F m r := qep k _ _ _ _ _ hx hy
theorem qK {S : Type} (K : S → Env × List BlkD × List RowD × List (World → Prop)) (ml : Nat → S → Option ρ) (s0 : S) (k0 : Nat)
    (hround : ∀ k s, SXC P ro n D M0 w0 (Exit.then (fun a w => ∃ k' < k + 1, ∃ s, ml k' s = some r ∧ Fr n D a (K s).1 ∧ Hp M0 w0 w (K s).2.1 (K s).2.2.1 (K s).2.2.2) Q) c (K s).1 (K s).2.1 (K s).2.2.1 (K s).2.2.2 (ml (k + 1) s) r)
    (hI : ∀ p ∈ (K s0).1, look l p.1 = some p.2 := by exact lka)
    (hB : Pick B (K s0).2.1 := by exact pka)
    (hR : Pick R (K s0).2.2.1 := by exact pka)
    (hF : ∀ φ ∈ (K s0).2.2.2, φ ∈ F := by exact fka)
    (hz : ∀ s, ml 0 s = none := by exact fun _ => rfl) :
    SXC P ro n D M0 w0 Q (.loop c) l B R F (ml k0 s0) r := ja _ _ _ _ ml s0 k0 hround hI hB hR hF hz
theorem qa {S : Type} {I : S → Env} {IB : S → List BlkD} {IR : S → List RowD} {IF : S → List (World → Prop)} {mj : S → Option ρ} {K : Exit → Act → World → Prop} (s : S)
    (hI : ∀ p ∈ I s, look l p.1 = some p.2 := by exact lka)
    (hB : Pick B (IB s) := by exact pka)
    (hR : Pick R (IR s) := by exact pka)
    (hF : ∀ φ ∈ IF s, φ ∈ F := by exact fka) :
    SXQ n D M0 w0 (Exit.then (fun a w => ∃ s, mj s = some r ∧ Fr n D a (I s) ∧ Hp M0 w0 w (IB s) (IR s) (IF s)) K) .normal l B R F (mj s) r := qc1 s hI hB hR hF
theorem qw {S : Type} {I : S → Env} {IB : S → List BlkD} {IR : S → List RowD} {IF : S → List (World → Prop)} {ml : Nat → S → Option ρ} {K : Exit → Act → World → Prop} {k : Nat} (s : S)
    (hI : ∀ p ∈ I s, look l p.1 = some p.2 := by exact lka)
    (hB : Pick B (IB s) := by exact pka)
    (hR : Pick R (IR s) := by exact pka)
    (hF : ∀ φ ∈ IF s, φ ∈ F := by exact fka) :
    SXQ n D M0 w0 (Exit.then (fun a w => ∃ k' < k + 1, ∃ s, ml k' s = some r ∧ Fr n D a (I s) ∧ Hp M0 w0 w (IB s) (IR s) (IF s)) K) .normal l B R F (ml k s) r := j7 s hI hB hR hF
theorem qB {α γ : Type} {mg : Option α} {k : α → Option ρ} {f : FuncId} {xs : Array Operand} {tys : Array TypeId} {vs : List Value} {Φ : List (World → Prop)} {V : α → γ → Value} {RW : α → γ → List RowD} {PH : α → γ → List (World → Prop)}
    (hC : ∀ {y}, mg = some y → Pure P f vs Φ γ (V y) (RW y) (PH y))
    (h : ∀ y, mg = some y → ∀ g, SXO P ro n D M0 w0 Q ops rest ((d, V y g) :: l) B (RW y g ++ R) (PH y g ++ F) (k y) r)
    (he : Enters P f := by exact EnC.e) (hw : wants ops l ⟨some d, .call ⟨.value (.func f), xs, tys⟩, t, pos, af, gd⟩ = some true := by rfl) (hx : evArgs l xs.toList = some vs := by rfl) (hd : Nat.blt d n = true := by rfl)
    (ha : Args R F Φ := by exact ara) :
    SXO P ro n D M0 w0 Q ops (⟨some d, .call ⟨.value (.func f), xs, tys⟩, t, pos, af, gd⟩ :: rest) l B R F (mg.bind k) r := vb he hw hx hd (fun _ => hC) ha h
theorem zU {α γ : Type} {mg : Option α} {k : α → Option ρ} {f : FuncId} {xs : Array Operand} {tys : Array TypeId} {vs : List Value} {Φ : List (World → Prop)} {V : α → γ → Value} {B0 BS : List BlkD} {R0 RS : List RowD} {B1 : α → γ → List BlkD} {R1 : α → γ → List RowD}
    (hC : ∀ {y}, mg = some y → PureM P f vs B0 R0 Φ γ (V y) (B1 y) (R1 y))
    (h : ∀ y, mg = some y → ∀ g, SXO P ro n D M0 w0 Q ops rest ((d, V y g) :: l) (B1 y g ++ BS) (R1 y g ++ RS) F (k y) r)
    (he : Enters P f := by exact EnC.e) (hw : wants ops l ⟨some d, .call ⟨.value (.func f), xs, tys⟩, t, pos, af, gd⟩ = some true := by rfl) (hx : evArgs l xs.toList = some vs := by rfl) (hd : Nat.blt d n = true := by rfl)
    (hB : Takes B B0 BS := by exact tka)
    (hR : Takes R R0 RS := by exact tka)
    (ha : ArgsM RS F Φ := by exact arma) :
    SXO P ro n D M0 w0 Q ops (⟨some d, .call ⟨.value (.func f), xs, tys⟩, t, pos, af, gd⟩ :: rest) l B R F (mg.bind k) r := jb he hw hx hd (fun _ => hC) hB hR ha h
theorem qgm (h : SXC P ro n D M0 w0 Q c [] B R F m r) : SXC P ro n D M0 w0 Q c (([] : List Value).zipIdx.map fun p => (p.2, p.1)) B R F m r := h
theorem qgn {a0 : Value} (h : SXC P ro n D M0 w0 Q c [(0, a0)] B R F m r) : SXC P ro n D M0 w0 Q c ([a0].zipIdx.map fun p => (p.2, p.1)) B R F m r := h
theorem qgo {a0 a1 : Value} (h : SXC P ro n D M0 w0 Q c [(0, a0), (1, a1)] B R F m r) : SXC P ro n D M0 w0 Q c ([a0, a1].zipIdx.map fun p => (p.2, p.1)) B R F m r := h
theorem qgp {a0 a1 a2 : Value} (h : SXC P ro n D M0 w0 Q c [(0, a0), (1, a1), (2, a2)] B R F m r) : SXC P ro n D M0 w0 Q c ([a0, a1, a2].zipIdx.map fun p => (p.2, p.1)) B R F m r := h
theorem yw {fn : Func} {γ : Type} {V : γ → Value} {RW : γ → List RowD} {w : World} {x : ρ} {e : Exit} (g : γ) {v : Value}
    (hres : ∀ a w', Fr n [] a l → Hp [] w w' B R F → (results fn a.tmps).run P w' = .ok v w' := by first | exact res1 rfl rfl | exact res2 rfl rfl rfl | exact res3 rfl rfl rfl rfl | exact res0 rfl)
    (hR : x = r → Pick R (RW g) := by intro h; subst h; exact pka)
    (hv : x = r → v = V g := by intro h; subst h; rfl) (he : e = .ret ∨ e = .normal := by first | exact .inl rfl | exact .inr rfl) :
    SXQ n [] [] w (bodyPost P fn fun e w' => ∃ g : γ, e = .returned (V g) ∧ Ret w w' (RW g) []) e l B R F (some x) r := qO g hres hR hv he
theorem zp {fn : Func} {γ : Type} {V : γ → Value} {B1 : γ → List BlkD} {R1 : γ → List RowD} {w : World} {x : ρ} {e : Exit} (g : γ) {v : Value}
    (hres : ∀ a w', Fr n [] a l → Hp M0 w w' B R F → (results fn a.tmps).run P w' = .ok v w' := by first | exact res1 rfl rfl | exact res2 rfl rfl rfl | exact res3 rfl rfl rfl rfl | exact res0 rfl)
    (hB : x = r → Pick B (B1 g) := by intro h; subst h; exact pka)
    (hR : x = r → Pick R (R1 g) := by intro h; subst h; exact pka)
    (hv : x = r → v = V g := by intro h; subst h; rfl) (he : e = .ret ∨ e = .normal := by first | exact .inl rfl | exact .inr rfl) :
    SXQ n [] M0 w (bodyPost P fn fun e w' => ∃ g : γ, e = .returned (V g) ∧ Hp M0 w w' (B1 g) (R1 g) []) e l B R F (some x) r := qc0 g hres hB hR hv he
theorem qfE {I : Env} {K : Exit → Act → World → Prop} (hI : ∀ p ∈ I, look l p.1 = some p.2 := by exact lka) :
    SXQ n D M0 w0 (Exit.then (fun a w => ∃ _s : Unit, m = some r ∧ Fr n D a I ∧ Hp M0 w0 w B R F) K) .normal l B R F m r := qgG hI
end
end SX
