/- A layer of rules for walking Go code: what a frame's slots hold, what blocks and rows of the heap hold; each rule speaks of a plain model's value: part 3. -/
import Derived.Test.YtilaklhajonenaaSx
import Derived.Lib.AppendZerosOnto
import Derived.Lib.Overlaps
import Derived.Shelf.SlSortCmp.NoneTotal
import Derived.Lib.SmallJoins
import Derived.Deep.Slices
namespace SX
open Go

/-! ### slices.Insert, of one element, into a queue -/
section ins
variable {P : Program} {M0 : List Nat} {w0 w : World} {B : List BlkD} {R : List RowD} {F : List (World → Prop)} {agg : Bool} {z : Value} {size bytes : Nat} {t t2 e : TypeId} {α : Type} {enc : α → List Value} {xs us : List α}
theorem copy_runG {K k dl dc sl j g c : Nat} {ty : TypeId} {u : Value} (henc : EncOk enc size) (hK : K ≤ xs.length) (hc : K + k ≤ c) (ht : P.underlying t = some (.slice e)) (hT : TyF P e agg z size bytes)
    (hp : Hp M0 w0 w B R F) (hR : R[j]? = some (Ro enc e size (.slice (some ⟨g, 0, none⟩) xs.length c) xs)) (hul : us.length = k) (hfc : (Builtin.firstCells size k u).run P w = .ok (us.flatMap enc).toArray w) (hlo : Builtin.lenOf u = pure sl) (hmin : Nat.min sl dl = k) :
    ∃ w', (Builtin.copy_ #[t, t2] ty #[.slice (some ⟨g, K * size, none⟩) dl dc, u]).run P w = .ok (goInt k) w' ∧
      Hp M0 w0 w' B (Ro enc e size (.slice (some ⟨g, 0, none⟩) (xs.take K ++ us ++ xs.drop (K + k)).length c) (xs.take K ++ us ++ xs.drop (K + k)) :: R.eraseIdx j) F := by
  have hown := hp.row _ (List.mem_of_getElem? hR)
  rcases hown.2 with ⟨h5, _⟩ | ⟨g', cap, cur, h5, _, hgg, hnc, hcm, hcs, htake⟩
  · simp [Ro] at h5
  · have h5' : Value.slice (some ⟨g, 0, none⟩) xs.length c = .slice (some ⟨g', 0, none⟩) xs.length cap := h5
    simp only [Value.slice.injEq, Option.some.injEq, Addr.mk.injEq, and_true, true_and] at h5'
    obtain ⟨rfl, rfl⟩ := h5'
    have hgg' : w.heap[g]? = some (.cells cur e (0, 0)) := hgg
    have hcs' : cur.size = c * size := hcs
    have hnc' : xs.length ≤ c := hnc
    have htake' : cur.toList.take (xs.length * size) = xs.flatMap enc := htake
    have husl := flatMap_len henc us
    rw [hul] at husl
    have hxl := flatMap_len henc xs
    have hKs : K * size ≤ xs.length * size := Nat.mul_le_mul_right _ hK
    have hcc : K * size + k * size ≤ c * size := by rw [← Nat.add_mul]; exact Nat.mul_le_mul_right _ hc
    have hst := run_storeCells_at P g (K * size) e (us.flatMap enc) 0 cur w hgg' (by rw [Nat.add_zero, husl, hcs']; exact hcc) (fun v hv => List.all_eq_true.1 (henc.okAll us) v hv)
    simp only [Nat.add_zero] at hst
    have hsplit : cur.toList = xs.flatMap enc ++ cur.toList.drop (xs.length * size) := by rw [← htake', List.take_append_drop]
    generalize hTe : cur.toList.drop (xs.length * size) = T at hsplit
    have hnew : cur.toList.take (K * size) ++ us.flatMap enc ++ cur.toList.drop (K * size + (us.flatMap enc).length) = (xs.take K ++ us ++ xs.drop (K + k)).flatMap enc ++ T.drop ((K + k) * size - (xs.flatMap enc).length) := by
      rw [List.flatMap_append, List.flatMap_append, flatMap_take henc, flatMap_drop henc, husl, ← Nat.add_mul, hsplit, List.take_append_of_le_length (by rw [hxl]; exact hKs), List.drop_append]
      simp only [List.append_assoc]
    refine ⟨w.setRow g (cur.toList.take (K * size) ++ us.flatMap enc ++ cur.toList.drop (K * size + (us.flatMap enc).length)).toArray, ?_, hp.swapRow hR ?_ (.inl ⟨rfl, ⟨rfl, rfl, rfl, by simp, fun q _ hq => setRow_other w g q _ (fun e => hq (by simp [Ro, Value.ownBlock, e])), Nat.le_refl _⟩⟩)⟩
    · simp [Builtin.copy_, run_underlying ht, hT.run_size, hlo, hmin, hfc, hst]
    · have hsz : (cur.toList.take (K * size) ++ us.flatMap enc ++ cur.toList.drop (K * size + (us.flatMap enc).length)).length = c * size := by
        simp only [List.length_append, List.length_take, List.length_drop, Array.length_toList, husl, hcs']
        omega
      refine ⟨flatMap_len henc _, .inr ⟨g, c, _, rfl, Nat.zero_le _, setRow_heap w g cur _ e _ hgg', ?_, hcm, ?_, ?_⟩⟩
      · show (xs.take K ++ us ++ xs.drop (K + k)).length ≤ c
        simp only [List.length_append, List.length_take, List.length_drop, hul]
        omega
      · show _ = c * size
        rw [List.size_toArray, hsz]
      · show List.take ((xs.take K ++ us ++ xs.drop (K + k)).length * size) _ = _
        rw [hnew]
        exact List.take_left' (flatMap_len henc _)
theorem row_first {j g c K0 k sl sc e2 : Nat} (hp : Hp M0 w0 w B R F) (henc : EncOk enc size) (hR : R[j]? = some (Ro enc e2 size (.slice (some ⟨g, 0, none⟩) xs.length c) xs)) (hk : K0 + k ≤ xs.length) :
    (Builtin.firstCells size k (.slice (some ⟨g, K0 * size, none⟩) sl sc)).run P w = .ok (((xs.drop K0).take k).flatMap enc).toArray w := by
  have hcells : Cells (.slice (some ⟨g, 0, none⟩) xs.length c) xs.length size (xs.flatMap enc) w := ownsRow_cells (hp.row _ (List.mem_of_getElem? hR))
  obtain ⟨a', cap, hv, _, _, _, h5⟩ := hcells.val
  simp only [Value.slice.injEq, true_and] at hv
  obtain ⟨rfl, rfl⟩ := hv
  refine run_firstCells_some w size k _ sl sc _ ?_ fun q v hq => ?_
  · rw [flatMap_len henc, List.length_take, List.length_drop, Nat.min_eq_left (by omega)]
  · rw [flatMap_take henc, flatMap_drop henc] at hq
    have hlt : q < k * size := by have := (List.getElem?_eq_some_iff.1 hq).1; simp at this; omega
    rw [List.getElem?_take_of_lt hlt, List.getElem?_drop] at hq
    obtain ⟨ad, h6, h7⟩ := h5 _ v hq
    simp only [Option.some.injEq] at h6
    subst h6
    rw [addr_add]
    simpa using h7
end ins
theorem qv_lit {g h n c size : Nat} (hc : h < c) : qv (some ⟨g, 0, none⟩) h n c size = .slice (some ⟨g, h * size, none⟩) n (c - h) := by
  cases h with
  | zero => simp [qv]
  | succ k =>
    unfold qv
    simp only
    rw [if_neg (by omega)]
    simp [Addr.add_lit]
section rules
variable {P : Program} {ro : Option Nat} {n : Nat} {D : List Deferred} {M0 : List Nat} {w0 : World} {Q : Exit → Act → World → Prop} {ρ : Type}
variable {ops : Array Oper} {rest : List Oper} {l : Env} {B : List BlkD} {R : List RowD} {F : List (World → Prop)} {m : Option ρ} {r : ρ}
variable {d : Nat} {t t' t2 e : TypeId} {pos : String} {af : Array Edge} {gd : Option (Nat × Bool)} {agg : Bool} {z : Value} {size bytes : Nat}
variable {α : Type} {enc : α → List Value} {xs hs ys : List α}
theorem yv_cutA {x : Operand} {lo hi : Option Operand} {L H nn c : Nat} {ao : Option Addr} {V : Value} (ht : P.underlying t' = some (.slice e)) (hT : TyF P e agg z size bytes)
    (hx : ev l x = some (.slice ao nn c)) (hlo : evOpt l lo 0 = some (L : Int)) (hhi : evOpt l hi (nn : Int) = some (H : Int)) (b2' : L ≤ H) (hn1 : H ≤ c) (hv : cutv ao c size L H = V) :
    Yv P l B F ⟨some d, .slice t' x lo hi none, t, pos, af, gd⟩ V := by
  intro n D a w hf _
  subst hv
  have h1 := hf.ev hx
  have e1 := evOpt_run hf hlo
  have e2 := evOpt_run hf hhi
  have hb0 : (0 : Int) ≤ (H : Int) := by omega
  have hb2 : (L : Int) ≤ (H : Int) := by omega
  have hb3 : (0 : Int) ≤ (L : Int) := by omega
  generalize hε : a.eval = ε at h1 e1 e2 ⊢
  rcases e1 with ⟨k1, e1⟩ | ⟨rfl, e1⟩ <;> rcases e2 with ⟨k2, e2⟩ | ⟨rfl, e2⟩
  · simp [execOp, h1, e1, e2, Instr.sliceAt, Instr.slice, Instr.sliceBounds, Instr.sliceBound, asIntOf, run_underlying ht, hT.run_size, hb0, hb3, hn1, b2', cutv]
  · have : H = nn := by omega
    subst this
    simp [execOp, h1, e1, Instr.sliceAt, Instr.slice, Instr.sliceBounds, Instr.sliceBound, asIntOf, run_underlying ht, hT.run_size, hb3, b2', cutv]
  · have : L = 0 := by omega
    subst this
    simp [execOp, h1, e2, Instr.sliceAt, Instr.slice, Instr.sliceBounds, Instr.sliceBound, asIntOf, run_underlying ht, hT.run_size, hb0, hn1, cutv]
  · have : H = nn := by omega
    subst this
    have : L = 0 := by omega
    subst this
    simp [execOp, h1, Instr.sliceAt, Instr.slice, Instr.sliceBounds, run_underlying ht, hT.run_size, cutv]
theorem cutv_lit {g o c L H : Nat} (h : L < c) : cutv (some ⟨g, o, none⟩) c size (L : Int) (H : Int) = .slice (some ⟨g, o + L * size, none⟩) (H - L) (c - L) := by
  unfold cutv
  rw [Int.toNat_natCast, Int.toNat_natCast, if_neg (by omega)]
  simp [addr_add]
theorem sxo_cutA {x : Operand} {lo hi : Option Operand} {L H nn c : Nat} {ao : Option Addr} {V : Value} (hw : wants ops l ⟨some d, .slice t' x lo hi none, t, pos, af, gd⟩ = some true) (ht : P.underlying t' = some (.slice e)) (hT : TyF P e agg z size bytes)
    (hx : ev l x = some (.slice ao nn c)) (hlo : evOpt l lo 0 = some (L : Int)) (hhi : evOpt l hi (nn : Int) = some (H : Int)) (b2' : L ≤ H) (hn1 : H ≤ c) (hv : cutv ao c size L H = V) (hd : Nat.blt d n = true)
    (h : SXO P ro n D M0 w0 Q ops rest ((d, V) :: l) B R F m r) : SXO P ro n D M0 w0 Q ops (⟨some d, .slice t' x lo hi none, t, pos, af, gd⟩ :: rest) l B R F m r :=
  sxo_val V hw rfl hd (fun a w hf _ => yv_cutA (P := P) (B := []) (F := []) ht hT hx hlo hhi b2' hn1 hv n D a w hf ⟨by simp, by simp⟩) h
theorem sxo_capV {x : Operand} {s e' : TypeId} {ao : Option Addr} {k c : Nat} (hw : wants ops l ⟨some d, .call ⟨.builtin .cap, #[x], #[s]⟩, t, pos, af, gd⟩ = some true) (ht : P.underlying s = some (.slice e')) (hx : ev l x = some (.slice ao k c)) (hd : Nat.blt d n = true)
    (h : SXO P ro n D M0 w0 Q ops rest ((d, .int .i64 (c : Int)) :: l) B R F m r) : SXO P ro n D M0 w0 Q ops (⟨some d, .call ⟨.builtin .cap, #[x], #[s]⟩, t, pos, af, gd⟩ :: rest) l B R F m r :=
  sxo_val _ hw rfl hd (fun a w hf _ => by
    have h1 := hf.ev hx
    generalize a.eval = ε at h1 ⊢
    simp [execOp, h1, resolve, invoke, builtin, Builtin.cap_, run_underlying ht, goInt]) h
theorem sxo_copyG {x s : Operand} {K K0 k g c dl dc g2 sl sc j j2 c2 e2 : Nat} (henc : EncOk enc size) (hw : wants ops l ⟨some d, .call ⟨.builtin .copy, #[x, s], #[t', t2]⟩, t, pos, af, gd⟩ = some true)
    (ht : P.underlying t' = some (.slice e)) (hT : TyF P e agg z size bytes) (hx : ev l x = some (.slice (some ⟨g, K * size, none⟩) dl dc)) (hs : ev l s = some (.slice (some ⟨g2, K0 * size, none⟩) sl sc))
    (hR : R[j]? = some (Ro enc e size (.slice (some ⟨g, 0, none⟩) xs.length c) xs)) (hR2 : R[j2]? = some (Ro enc e2 size (.slice (some ⟨g2, 0, none⟩) ys.length c2) ys)) (hd : Nat.blt d n = true)
    (hK : K ≤ xs.length) (hc : K + k ≤ c) (hk : K0 + k ≤ ys.length) (hmin : min sl dl = k)
    (h : ∀ zs, xs.take K ++ (ys.drop K0).take k ++ xs.drop (K + k) = zs → SXO P ro n D M0 w0 Q ops rest ((d, .int .i64 (k : Int)) :: l) B (Ro enc e size (.slice (some ⟨g, 0, none⟩) zs.length c) zs :: R.eraseIdx j) F m r) :
    SXO P ro n D M0 w0 Q ops (⟨some d, .call ⟨.builtin .copy, #[x, s], #[t', t2]⟩, t, pos, af, gd⟩ :: rest) l B R F m r := by
  refine sxo_gen hw fun hm a w hf hp => ?_
  obtain ⟨w', hrun, hp'⟩ := copy_runG (k := k) (dl := dl) (dc := dc) (sl := sl) (ty := t) (t2 := t2) (u := .slice (some ⟨g2, K0 * size, none⟩) sl sc) (us := (ys.drop K0).take k) henc hK hc ht hT hp hR (by rw [List.length_take, List.length_drop]; omega) (row_first hp henc hR2 hk) rfl hmin
  have e1 := hf.ev hx
  have e2 := hf.ev hs
  refine ⟨_, w', ?_, h _ rfl hm _ _ (hf.put hd _) hp'⟩
  generalize a.eval = ε at e1 e2 ⊢
  simp [execOp, resolve, invoke, builtin, e1, e2, hrun, goInt]
theorem sxo_appZg {x y : Operand} {kq kn : IntKind} {k sl sc K0 g j c e2 : Nat} {zy : α} (henc : EncOk enc size) (hs0 : 0 < size) (hw : wants ops l ⟨some d, .call ⟨.builtin .append, #[x, y], #[t', t2]⟩, t, pos, af, gd⟩ = some true)
    (ht : P.underlying t' = some (.slice e)) (ht2 : P.underlying t2 = some (.int kn)) (hT : TyF P e agg z size bytes) (hz : z.cells.toList = enc zy) (hx : ev l x = some (.slice (some ⟨g, K0 * size, none⟩) sl sc)) (hy : ev l y = some (.int kq (k : Int))) (hd : Nat.blt d n = true)
    (hR : R[j]? = some (Ro enc e2 size (.slice (some ⟨g, 0, none⟩) xs.length c) xs)) (hk0 : K0 + sl ≤ xs.length) (h0 : 0 < k) (hg : sc < sl + k) (hm1 : sl + k ≤ 1000000) (hb : bytes ≤ 64)
    (h : ∀ g' c', sl + k ≤ c' → SXO P ro n D M0 w0 Q ops rest ((d, .slice (some ⟨g', 0, none⟩) (sl + k) c') :: l) B (Ro enc e size (.slice (some ⟨g', 0, none⟩) ((xs.drop K0).take sl ++ List.replicate k zy).length c') ((xs.drop K0).take sl ++ List.replicate k zy) :: R) F m r) :
    SXO P ro n D M0 w0 Q ops (⟨some d, .call ⟨.builtin .append, #[x, y], #[t', t2]⟩, t, pos, af, gd⟩ :: rest) l B R F m r := by
  refine sxo_gen hw fun hm a w hf hp => ?_
  obtain ⟨i, hi, hz', hsz, hby⟩ := hT.inf
  subst hsz; subst hby
  have hfc := row_first (P := P) (k := sl) (sl := sl) (sc := sc) (hp.step (w' := w.drew) (Keeps.of_heap rfl rfl rfl rfl)) henc hR hk0
  have hbb : (sl + k) * i.bytes ≤ 140737488355328 := Nat.le_trans (Nat.mul_le_mul hm1 hb) (by decide)
  have h48 : Builtin.nextslicecap (sl + k) sc * i.bytes ≤ 281474976710656 := by
    have := nextcap_fits (need := sl + k) (cap := sc) (bytes := i.bytes) hg hbb
    simpa using this
  have hrun := Go.Lib.run_append_grow_zeros (P := P) w t' t2 t e i z kq kn ht ht2 hi hz' (some ⟨g, K0 * i.size, none⟩) sl sc _ hfc k h0 hs0 hg (by omega) (Nat.le_trans (Nat.mul_le_mul (show k ≤ 1000000 by omega) hb) (by decide)) h48
  have hge := grownCap_ge w (sl + k) sc e
  have hcm' : grownCap w (sl + k) sc e ≤ maxLen := grownCap_le_maxLen w (sl + k) sc e (by simp only [maxLen]; omega)
  have hlen : ((xs.drop K0).take sl ++ List.replicate k zy).length = sl + k := by
    rw [List.length_append, List.length_take, List.length_drop, List.length_replicate]; omega
  have hzc : (Builtin.zeroCells z.cells k).toList = (List.replicate k zy).flatMap enc := by
    rw [flatMap_rep' hz.symm k]
    have := made_cells (zc := z.cells.toList) (size := i.size) (by rw [hz, henc.len]) (by omega) (ca := z.cells) rfl k
    rw [← this]
    have hzl : z.cells.size = i.size := by
      have := henc.len zy
      rw [← hz] at this
      simpa using this
    unfold Builtin.zeroCells madeCells
    rw [hzl]
  have hzl : z.cells.size = i.size := by
    have := henc.len zy
    rw [← hz] at this
    simpa using this
  have e1 := hf.ev hx
  have e2' := hf.ev hy
  have key : Hp M0 w0 (w.drew.alloc (.cells ((((xs.drop K0).take sl).flatMap enc).toArray ++ Builtin.zeroCells z.cells k ++ Builtin.zeroCells z.cells (grownCap w (sl + k) sc e - (sl + k))) e)) B
      (Ro enc e i.size (.slice (some ⟨w.heap.size, 0, none⟩) ((xs.drop K0).take sl ++ List.replicate k zy).length (grownCap w (sl + k) sc e)) ((xs.drop K0).take sl ++ List.replicate k zy) :: R) F := by
    refine hp.addRow ⟨rfl, rfl, rfl, by simp, fun k hk _ => Go.RowKit.Below.heap_alloc w.drew _ k hk, Nat.le_succ _⟩ ?_ ?_
    · refine ⟨flatMap_len henc _, .inr ⟨w.heap.size, _, _, rfl, Nat.zero_le _, heap_alloc_new w.drew _, ?_, hcm', ?_, ?_⟩⟩
      · show ((xs.drop K0).take sl ++ List.replicate k zy).length ≤ _
        rw [hlen]; exact hge
      · show _ = grownCap w (sl + k) sc e * i.size
        have hl1 : (((xs.drop K0).take sl).flatMap enc).length = sl * i.size := by rw [flatMap_len henc, List.length_take, List.length_drop, Nat.min_eq_left (by omega)]
        simp only [Array.size_append, List.size_toArray, size_zeroCells, hzl, hl1, ← Nat.add_mul]
        congr 1
        omega
      · show List.take (((xs.drop K0).take sl ++ List.replicate k zy).length * i.size) _ = ((xs.drop K0).take sl ++ List.replicate k zy).flatMap enc
        rw [Array.toList_append, Array.toList_append, hzc, List.flatMap_append]
        exact List.take_left' (by rw [← List.flatMap_append, flatMap_len henc])
    · intro g' hg'
      have : w.heap.size = g' := by simpa [Ro, Value.ownBlock] using hg'
      omega
  refine ⟨_, _, ?_, h w.heap.size (grownCap w (sl + k) sc e) hge hm _ _ (hf.put hd _) key⟩
  generalize a.eval = ε at e1 e2' ⊢
  simp [execOp, resolve, invoke, builtin, e1, e2', hrun]
theorem qv_own {w : World} {a : Option Addr} {c : Nat} (ho : (Ro enc e size (.slice a (hs ++ xs).length c) (hs ++ xs)).own w) : hs.length + xs.length ≤ c ∧ ∃ p, qv a hs.length xs.length c size = .slice p xs.length (c - hs.length) ∧
    (0 < xs.length → ∃ g, a = some ⟨g, 0, none⟩ ∧ p = some ⟨g, hs.length * size, none⟩) := by
  have hcap : hs.length + xs.length ≤ c := by
    rcases ho.2 with ⟨h2, h3⟩ | ⟨g, cap, cur, hv, _, _, h4, _⟩
    · have h3' : (hs ++ xs).length = 0 := h3
      rw [List.length_append] at h3'
      omega
    · have hv' : Value.slice a (hs ++ xs).length c = .slice (some ⟨g, 0, none⟩) (hs ++ xs).length cap := hv
      simp only [Value.slice.injEq, true_and] at hv'
      have h4' : (hs ++ xs).length ≤ cap := h4
      rw [List.length_append] at h4'
      omega
  refine ⟨hcap, ?_⟩
  cases hh : hs.length with
  | zero =>
    refine ⟨a, by simp [qv], fun hn => ?_⟩
    obtain ⟨g, rfl, _⟩ := row_lit ho (by rw [List.length_append]; omega)
    exact ⟨g, rfl, by simp⟩
  | succ k =>
    refine ⟨_, rfl, fun hn => ?_⟩
    obtain ⟨g, rfl, _⟩ := row_lit ho (by rw [List.length_append]; omega)
    refine ⟨g, rfl, ?_⟩
    rw [if_neg (by omega)]
    simp [Addr.add_lit]
theorem sxc_qv {x : Code} {a : Option Addr} {c : Nat} (j : Nat) (hR : R[j]? = some (Ro enc e size (.slice a (hs ++ xs).length c) (hs ++ xs)))
    (h : hs.length + xs.length ≤ c → ∀ p, qv a hs.length xs.length c size = .slice p xs.length (c - hs.length) → (0 < xs.length → ∃ g, a = some ⟨g, 0, none⟩ ∧ p = some ⟨g, hs.length * size, none⟩) → SXC P ro n D M0 w0 Q x l B R F m r) : SXC P ro n D M0 w0 Q x l B R F m r := by
  intro hm ac w hf hp
  obtain ⟨h1, p, h2, h3⟩ := qv_own (hp.row _ (List.mem_of_getElem? hR))
  exact h h1 p h2 h3 hm ac w hf hp
theorem append_ty2 {e2 : TypeId} {w : World} {ty : TypeId} {a b : Value} (hT : TyF P e agg z size bytes) (ht : P.underlying t = some (.slice e)) (ht2 : P.underlying t2 = some (.slice e2)) : (Builtin.append_ #[t, t2] ty #[a, b]).run P w = (Builtin.append_ #[t, t] ty #[a, b]).run P w := by
  cases a <;> simp [Builtin.append_, run_underlying ht, run_underlying ht2, hT.run_size]
theorem sxo_appQ2 {s x : Operand} {u : Value} {a : Option Addr} {c e2 e3 : Nat} (i j : Nat) (henc : EncOk enc size)
    (hw : wants ops l ⟨some d, .call ⟨.builtin .append, #[s, x], #[t', t2]⟩, t, pos, af, gd⟩ = some true) (ht : P.underlying t' = some (.slice e)) (ht2 : P.underlying t2 = some (.slice e2)) (hT : TyF P e agg z size bytes) (hzs : z.cells.size = size) (hd : Nat.blt d n = true)
    (hs1 : ev l s = some (qv a hs.length xs.length c size)) (hx : ev l x = some u) (hR : R[i]? = some (Ro enc e size (.slice a (hs ++ xs).length c) (hs ++ xs))) (hu : R[j]? = some (Ro enc e3 size u ys))
    (hlim : xs.length + ys.length ≤ 1000000) (hlb : bytes ≤ 64)
    (h : ∀ (a : Option Addr) (c : Nat) (h' : List α), SXO P ro n D M0 w0 Q ops rest ((d, qv a h'.length (xs ++ ys).length c size) :: l) B (Ro enc e size (.slice a (h' ++ (xs ++ ys)).length c) (h' ++ (xs ++ ys)) :: R.eraseIdx i) F m r) :
    SXO P ro n D M0 w0 Q ops (⟨some d, .call ⟨.builtin .append, #[s, x], #[t', t2]⟩, t, pos, af, gd⟩ :: rest) l B R F m r := by
  refine sxo_gen hw fun hm ac w hf hp => ?_
  have h1 := hf.ev hs1
  have h2 := hf.ev hx
  have hsrc : Cells u ys.length size (ys.flatMap enc) w := ownsRow_cells (hp.row _ (List.mem_of_getElem? hu))
  have hown : w.ownsRow 0 e size (.slice a (hs.length + xs.length) c) (hs.length + xs.length) (hs.flatMap enc ++ xs.flatMap enc) := by
    have h9 : w.ownsRow 0 e size (.slice a (hs ++ xs).length c) (hs ++ xs).length ((hs ++ xs).flatMap enc) := hp.row _ (List.mem_of_getElem? hR)
    rw [List.length_append, List.flatMap_append] at h9
    exact h9
  obtain ⟨a', c', v', w', hr, hcase⟩ := run_appendQ (P := P) (ty := t) w ht hT hzs (flatMap_len henc hs) (flatMap_len henc xs) hown hsrc (henc.okAll ys)
    (by show xs.length + ys.length ≤ maxLen; simp only [maxLen]; omega) (by show (xs.length + ys.length) * bytes ≤ _; exact Nat.le_trans (Nat.mul_le_mul hlim hlb) (by decide))
  rw [← append_ty2 hT ht ht2] at hr
  rcases hcase with ⟨rfl, ho, hk⟩ | ⟨rfl, ho, hk⟩
  · have hn1 : (xs ++ ys).length = xs.length + ys.length := List.length_append
    have hn2 : (hs ++ (xs ++ ys)).length = hs.length + (xs.length + ys.length) := by simp
    refine ⟨qv a' hs.length (xs ++ ys).length c' size, w', by rw [hn1]; generalize ac.eval = ε at h1 h2 ⊢; simp [execOp, resolve, invoke, builtin, h1, h2, hr], h a' c' hs hm _ _ (hf.put hd _) (hp.swapRow hR ?_ ?_)⟩
    · show w'.ownsRow 0 e size (.slice a' (hs ++ (xs ++ ys)).length c') (hs ++ (xs ++ ys)).length ((hs ++ (xs ++ ys)).flatMap enc)
      rw [hn2, List.flatMap_append, List.flatMap_append]
      exact ho
    · have e1 : (Value.slice a (hs ++ xs).length c).ownBlock = (Value.slice a (hs.length + xs.length) c).ownBlock := by rw [List.length_append]
      have e2 : (Value.slice a' (hs ++ (xs ++ ys)).length c').ownBlock = (Value.slice a' (hs.length + (xs.length + ys.length)) c').ownBlock := by rw [hn2]
      simp only [Ro]
      rw [e1, e2]
      exact hk
  · have hn1 : (xs ++ ys).length = xs.length + ys.length := List.length_append
    refine ⟨.slice a' (xs ++ ys).length c', w', by rw [hn1]; generalize ac.eval = ε at h1 h2 ⊢; simp [execOp, resolve, invoke, builtin, h1, h2, hr], h a' c' [] hm _ _ (hf.put hd _) (hp.swapRow hR ?_ (.inr ⟨hk.1, ?_⟩))⟩
    · show w'.ownsRow 0 e size (.slice a' ([] ++ (xs ++ ys)).length c') ([] ++ (xs ++ ys)).length (([] ++ (xs ++ ys)).flatMap enc)
      rw [List.nil_append, hn1, List.flatMap_append]
      exact ho
    · intro g hg
      refine hk.2 g ?_
      rw [← hn1]; exact hg
theorem rows_two {w : World} {i j g g' : Nat} {rd rd' : RowD} (hp : Hp M0 w0 w B R F) (hi : R[i]? = some rd) (hj : R[j]? = some rd') (hij : j ≠ i) (hg : rd.v.ownBlock = some g) (hg' : rd'.v.ownBlock = some g') : g ≠ g' := by
  have hp' := (hp.perm (List.Perm.refl _) (erase_front hi)).nodup
  have hm : rd' ∈ R.eraseIdx i := List.mem_eraseIdx_iff_getElem?.2 ⟨j, hij, hj⟩
  rintro rfl
  exact rows_apart hp' g (RowD.blocks_v hg) (List.mem_append.2 (.inr (List.mem_flatMap.2 ⟨rd', hm, RowD.blocks_v hg'⟩)))
theorem row_shape {w : World} {v : Value} {n' g : Nat} {cs : List Value} (h : w.ownsRow 0 e size v n' cs) (hg : v.ownBlock = some g) : ∃ c n'' k, v = .slice (some ⟨g, 0, none⟩) n'' c ∧ w.shape? g = some (e, c * size) ∧ w.frozen? ⟨g, 0, none⟩ = false ∧ w.frozen? ⟨g, k, none⟩ = false ∧ k = c * size := by
  rcases h.2 with ⟨rfl, _⟩ | ⟨g', cap, cur, rfl, _, hgg, hnc, hcm, hcs, htake⟩
  · simp [Value.ownBlock] at hg
  · have : g' = g := by simpa [Value.ownBlock] using hg
    subst this
    refine ⟨cap, _, cap * size, rfl, ?_, ?_, ?_, rfl⟩
    · simp [World.shape?, hgg, hcs]
    · simp [World.frozen?, hgg]
    · simp [World.frozen?, hgg]
theorem sxo_overl {f : FuncId} {x y : Operand} {tys : Array TypeId} {tR : TypeId} {g1 g2 o2 la ca lb cb i j e1 e2 c1 c2 : Nat}
    (hcf : ∀ (args : Array Value) (w : World), (callFunc f args).run P w = ((Extern.SlicesOverlaps.overlaps #[t', t'] #[tR] args).run P w).andThen fun v w' => .ok (.value v) w')
    (hw : wants ops l ⟨some d, .call ⟨.value (.func f), #[x, y], tys⟩, t, pos, af, gd⟩ = some true) (hx : ev l x = some (.slice (some ⟨g1, 0, none⟩) la ca)) (hy : ev l y = some (.slice (some ⟨g2, o2, none⟩) lb cb))
    (ht : P.underlying t' = some (.slice e)) (hT : TyF P e agg z size bytes) (hR1 : R[i]? = some (Ro enc e1 size (.slice (some ⟨g1, 0, none⟩) ys.length c1) ys)) (hR2 : R[j]? = some (Ro enc e2 size (.slice (some ⟨g2, 0, none⟩) xs.length c2) xs))
    (hij : j ≠ i) (hc2 : c2 * size ≠ 0) (hd : Nat.blt d n = true)
    (h : SXO P ro n D M0 w0 Q ops rest ((d, .bool false) :: l) B R F m r) :
    SXO P ro n D M0 w0 Q ops (⟨some d, .call ⟨.value (.func f), #[x, y], tys⟩, t, pos, af, gd⟩ :: rest) l B R F m r := by
  refine sxo_gen hw fun hm a w hf hp => ?_
  have h1 := hf.ev hx
  have h2 := hf.ev hy
  have hne := rows_two hp hR1 hR2 hij (g := g1) (g' := g2) rfl rfl
  obtain ⟨c, n1, k1, hv1, hsa, hfa, hfe, hk1⟩ := row_shape (g := g1) (hp.row _ (List.mem_of_getElem? hR1)) rfl
  obtain ⟨c', n2, k2, hv2, hsb, _, _, _⟩ := row_shape (g := g2) (hp.row _ (List.mem_of_getElem? hR2)) rfl
  have hv2' : Value.slice (some ⟨g2, 0, none⟩) xs.length c2 = .slice (some ⟨g2, 0, none⟩) n2 c' := hv2
  simp only [Value.slice.injEq, true_and] at hv2'
  obtain ⟨_, rfl⟩ := hv2'
  subst hk1
  have hrun := Go.Lib.run_overlaps_apart (P := P) w t' tR e ht size hT.run_size ⟨g1, 0, none⟩ ⟨g2, o2, none⟩ la ca lb cb hne _ _ _ _ hsa hsb hc2 hfa hfe
  have hcr := hcf #[.slice (some ⟨g1, 0, none⟩) la ca, .slice (some ⟨g2, o2, none⟩) lb cb] w
  rw [hrun] at hcr
  have h0 : a.eval (.func f) = .func (.func f) #[] #[] := rfl
  refine ⟨.bool false, w, ?_, h hm _ _ (hf.put hd _) hp⟩
  generalize a.eval = ε at h0 h1 h2 ⊢
  simp [execOp, resolve, h0, h1, h2, Deferred.ofValue, invoke, hcr, Result.andThen]
/-! ### Queues whose elements hold slices that are read alone -/
def HN {γ : Type} (inn : α × γ → List (World → Prop)) (x : List α) (zs : List (α × γ)) (w : World) : Prop := zs.map (·.1) = x ∧ ∀ p ∈ zs, ∀ φ ∈ inn p, φ w
def insK {β : Type} (k : Int) (l : List β) (y : β) : List β := l.take k.toNat ++ y :: l.drop k.toNat
section hn
variable {γ : Type} {inn : α × γ → List (World → Prop)} {x : List α} {zs : List (α × γ)}
theorem hn_len {w : World} (h : HN inn x zs w) : x.length = zs.length := by rw [← h.1, List.length_map]
theorem hn_ins {w : World} {k : Int} {q : α × γ} (h : HN inn x zs w) (hq : ∀ φ ∈ inn q, φ w) : HN inn (insK k x q.1) (insK k zs q) w := by
  refine ⟨?_, fun p hp => ?_⟩
  · unfold insK
    rw [List.map_append, List.map_cons, List.map_take, List.map_drop, h.1]
  · rcases List.mem_append.1 hp with hp | hp
    · exact h.2 p (List.mem_of_mem_take hp)
    · rcases List.mem_cons.1 hp with rfl | hp
      · exact hq
      · exact h.2 p (List.mem_of_mem_drop hp)
theorem Hp.addF {w : World} {φ : World → Prop} (h : Hp M0 w0 w B R F) (hφ : Nec w (muts B R) φ) : Hp M0 w0 w B R (φ :: F) := by
  refine ⟨h.keep, h.blk, h.rows, h.nodup, h.fresh, fun ψ hψ => ?_⟩
  rcases List.mem_cons.1 hψ with rfl | hψ
  · exact hφ
  · exact h.per ψ hψ
theorem sxo_hnNil (α γ : Type) (inn : α × γ → List (World → Prop)) (h : SXO P ro n D M0 w0 Q ops rest l B R (HN inn ([] : List α) ([] : List (α × γ)) :: F) m r) : SXO P ro n D M0 w0 Q ops rest l B R F m r :=
  fun hm a w hf hp => h hm a w hf (hp.addF fun _ _ => ⟨rfl, by simp⟩)
theorem sxo_hnIns {k : Int} {q : α × γ} {ψ : World → Prop} (i j : Nat) (hF : F[i]? = some (HN inn x zs)) (hin : inn q = [ψ]) (hj : F[j]? = some ψ) (h : SXO P ro n D M0 w0 Q ops rest l B R (HN inn (insK k x q.1) (insK k zs q) :: F) m r) : SXO P ro n D M0 w0 Q ops rest l B R F m r :=
  fun hm a w hf hp => h hm a w hf (hp.addF fun w' hk => hn_ins (hp.per _ (List.mem_of_getElem? hF) w' hk) (by
    rw [hin]; intro φ hφ
    rw [List.mem_singleton] at hφ
    subst hφ
    exact hp.per _ (List.mem_of_getElem? hj) w' hk))
theorem sxc_hn {c : Code} (i : Nat) (hF : F[i]? = some (HN inn x zs)) (h : zs.map (·.1) = x → SXC P ro n D M0 w0 Q c l B R F m r) : SXC P ro n D M0 w0 Q c l B R F m r :=
  fun hm a w hf hp => h (hp.per _ (List.mem_of_getElem? hF)).here.1 hm a w hf hp
theorem sxo_lenH {s e' : TypeId} {o : Operand} {a : Option Addr} {c h0 : Nat} (i : Nat) (hF : F[i]? = some (HN inn x zs)) (hw : wants ops l ⟨some d, .call ⟨.builtin .len, #[o], #[s]⟩, t, pos, af, gd⟩ = some true) (ht : P.underlying s = some (.slice e')) (hx : ev l o = some (qv a h0 zs.length c size)) (hd : Nat.blt d n = true)
    (hh : SXO P ro n D M0 w0 Q ops rest ((d, .int .i64 (x.length : Int)) :: l) B R F m r) : SXO P ro n D M0 w0 Q ops (⟨some d, .call ⟨.builtin .len, #[o], #[s]⟩, t, pos, af, gd⟩ :: rest) l B R F m r := by
  intro hm ac w hf hp
  have hl := hn_len (hp.per _ (List.mem_of_getElem? hF)).here
  rw [hl] at hh
  exact sxo_lenQ hw ht hx hd hh hm ac w hf hp
theorem sxo_idxH {enc : α × γ → List Value} {hs : List (α × γ)} {k : α → Option ρ} {s ix : Operand} {ki : IntKind} {i : Int} {a : Option Addr} {c j f : Nat}
    (hF : F[f]? = some (HN inn x zs)) (hw : wants ops l ⟨some d, .indexAddr t' s ix, t, pos, af, gd⟩ = some true) (ht : P.underlying t' = some (.slice e)) (hT : TyF P e agg z size bytes) (hx : ev l s = some (qv a hs.length zs.length c size)) (hi : ev l ix = some (.int ki i))
    (hR : R[j]? = some (Ro enc e size (.slice a (hs ++ zs).length c) (hs ++ zs))) (hd : Nat.blt d n = true)
    (h : ∀ y, idx x i = some y → ∀ q, (hs ++ zs)[hs.length + i.toNat]? = some (y, q) → ∀ g, (Value.slice a (hs ++ zs).length c).ownBlock = some g → SXO P ro n D M0 w0 Q ops rest ((d, .pointer (some ⟨g, (hs.length + i.toNat) * size, none⟩)) :: l) B R (inn (y, q) ++ F) (k y) r) :
    SXO P ro n D M0 w0 Q ops (⟨some d, .indexAddr t' s ix, t, pos, af, gd⟩ :: rest) l B R F ((idx x i).bind k) r := by
  intro hm ac w hf hp
  have hn := (hp.per _ (List.mem_of_getElem? hF))
  cases hq : idx x i with
  | none => rw [hq] at hm; simp at hm
  | some y =>
    obtain ⟨h0, h1, h2⟩ := idx_get hq
    rw [← hn.here.1, List.getElem?_map] at h2
    obtain ⟨p, hp1, hp2⟩ := Option.map_eq_some_iff.1 h2
    obtain ⟨y', q⟩ := p
    simp only at hp2
    subst hp2
    have hz : idx zs i = some (y', q) := by unfold idx; rw [if_pos h0]; exact hp1
    refine sxo_indexQ (r := r) (k := fun _ => k y') hw ht hT hx hi hR hd (fun u hu g hg => ?_) ?_ ac w hf hp
    · intro hm' ac' w' hf' hp'
      refine h y' hq q (que_get hz) g hg hm' ac' w' hf' ?_
      refine ⟨hp'.keep, hp'.blk, hp'.rows, hp'.nodup, hp'.fresh, fun φ hφ => ?_⟩
      rcases List.mem_append.1 hφ with hφ | hφ
      · intro w'' hk
        exact ((hp'.per _ (List.mem_of_getElem? hF)) w'' hk).2 (y', q) (List.mem_of_getElem? hp1) φ hφ
      · exact hp'.per φ hφ
    · rw [hz]
      rw [hq] at hm
      exact hm
theorem sxo_callX {α γ : Type} {mg : Option α} {k : α → Option ρ} {f : FuncId} {xs : Array Operand} {tys : Array TypeId} {vs : List Value} {Φ : List (World → Prop)} {V : α → γ → Value} {RW : α → γ → List RowD} {PH : α → γ → List (World → Prop)}
    (he : Enters P f) (hw : wants ops l ⟨some d, .call ⟨.value (.func f), xs, tys⟩, t, pos, af, gd⟩ = some true) (hx : evArgs l xs.toList = some vs) (hd : Nat.blt d n = true)
    (hC : ∀ y, mg = some y → Pure P f vs Φ γ (V y) (RW y) (PH y)) (ha : ∀ w, Hp M0 w0 w B R F → ∀ φ ∈ Φ, φ w)
    (h : ∀ y, mg = some y → ∀ g, SXO P ro n D M0 w0 Q ops rest ((d, V y g) :: l) B (RW y g ++ R) (PH y g ++ F) (k y) r) :
    SXO P ro n D M0 w0 Q ops (⟨some d, .call ⟨.value (.func f), xs, tys⟩, t, pos, af, gd⟩ :: rest) l B R F (mg.bind k) r := by
  intro hm a w hf hp
  cases hq : mg with
  | none => rw [hq] at hm; simp at hm
  | some y =>
    rw [hq] at hm
    have hm' : k y = some r := by simpa using hm
    refine gwpList_call (wants_sound hf hw) (wants_calm hw) (run_call hf he hx) ((hC y hq w (Hp.start fun φ hφ w' hk => ha w' (hp.step hk) φ hφ)).mono fun e w' ⟨g, h1, h2⟩ => ⟨V y g, h1, ?_⟩)
    exact h y hq g hm' _ _ (hf.put hd _) (hp.call h2)
theorem hn_sln {enc : α × γ → List Value} {hs : List (α × γ)} {w : World} {a : Option Addr} {c f j : Nat} (henc : EncOk enc size) (hp : Hp M0 w0 w B R F) (hF : F[f]? = some (HN inn x zs)) (hR : R[j]? = some (Ro enc e size (.slice a (hs ++ zs).length c) (hs ++ zs))) :
    SlN enc inn size (qv a hs.length zs.length c size) x (zs.map (·.2)) w := by
  have hn := (hp.per _ (List.mem_of_getElem? hF)).here
  have hzip : x.zip (zs.map (·.2)) = zs := by rw [← hn.1]; exact zip_maps zs
  refine ⟨by rw [hn_len hn, List.length_map], ?_, ?_⟩
  · rw [hzip]
    have ho := hp.row _ (List.mem_of_getElem? hR)
    have h9 : w.ownsRow 0 e size (.slice a (hs ++ zs).length c) (hs ++ zs).length ((hs ++ zs).flatMap enc) := ho
    rw [List.length_append, List.flatMap_append] at h9
    exact qv_cells (flatMap_len henc hs) (flatMap_len henc zs) h9
  · rw [hzip]; exact hn.2
theorem sxo_rowlit {ys : List α} {enc : α → List Value} {a : Option Addr} {c : Nat} (j : Nat) (hR : R[j]? = some (Ro enc e size (.slice a ys.length c) ys)) (hn : 0 < ys.length) (h : ∀ g, a = some ⟨g, 0, none⟩ → SXO P ro n D M0 w0 Q ops rest l B R F m r) : SXO P ro n D M0 w0 Q ops rest l B R F m r := by
  intro hm ac w hf hp
  obtain ⟨g, hg, _⟩ := row_lit (hp.row _ (List.mem_of_getElem? hR)) hn
  exact h g hg hm ac w hf hp
def popM {α : Type} : List α → Option (α × List α) | y :: t => some (y, t) | [] => none
theorem sxo_callPop {enc : α × γ → List Value} {hs : List (α × γ)} {k : α × List α → Option ρ} {f T g c i j p : Nat} {a : Option Addr} {xs : Array Operand} {tys : Array TypeId} {V : α × γ → Value}
    (he : Enters P f) (hw : wants ops l ⟨some d, .call ⟨.value (.func f), xs, tys⟩, t, pos, af, gd⟩ = some true) (hx : evArgs l xs.toList = some [.pointer (some ⟨g, 0, none⟩)]) (hd : Nat.blt d n = true)
    (hC : ∀ q zs', PureM P f [.pointer (some ⟨g, 0, none⟩)] [⟨g, T, [qv a hs.length (q :: zs').length c size]⟩] [Ro enc e size (.slice a (hs ++ q :: zs').length c) (hs ++ q :: zs')] [] (List (α × γ)) (fun _ => V q) (fun h' => [⟨g, T, [qv a h'.length zs'.length c size]⟩]) (fun h' => [Ro enc e size (.slice a (h' ++ zs').length c) (h' ++ zs')]))
    (hB : B[i]? = some ⟨g, T, [qv a hs.length zs.length c size]⟩) (hR : R[j]? = some (Ro enc e size (.slice a (hs ++ zs).length c) (hs ++ zs))) (hF : F[p]? = some (HN inn x zs))
    (h : ∀ y, popM x = some y → ∀ (q : γ) (zs' hs' : List (α × γ)), SXO P ro n D M0 w0 Q ops rest ((d, V (y.1, q)) :: l) (⟨g, T, [qv a hs'.length zs'.length c size]⟩ :: B.eraseIdx i) (Ro enc e size (.slice a (hs' ++ zs').length c) (hs' ++ zs') :: R.eraseIdx j) (HN inn y.2 zs' :: (inn (y.1, q) ++ F)) (k y) r) :
    SXO P ro n D M0 w0 Q ops (⟨some d, .call ⟨.value (.func f), xs, tys⟩, t, pos, af, gd⟩ :: rest) l B R F ((popM x).bind k) r := by
  intro hm ac w hf hp
  have hn := (hp.per _ (List.mem_of_getElem? hF))
  cases hq : popM x with
  | none => rw [hq] at hm; simp at hm
  | some yt =>
    obtain ⟨y, tl⟩ := yt
    have hxc : x = y :: tl := by
      cases x with
      | nil => simp [popM] at hq
      | cons b t => simp only [popM, Option.some.injEq, Prod.mk.injEq] at hq; rw [hq.1, hq.2]
    have h1 := hn.here.1
    rw [hxc] at h1
    cases zs with
    | nil => simp at h1
    | cons z0 zs' =>
      obtain ⟨y', q⟩ := z0
      simp only [List.map_cons, List.cons.injEq] at h1
      obtain ⟨rfl, ht⟩ := h1
      refine sxo_callM (mg := (some () : Option Unit)) (k := fun _ => k (y', tl)) (V := fun _ _ => V (y', q)) (B1 := fun _ h' => [⟨g, T, [qv a h'.length zs'.length c size]⟩]) (R1 := fun _ h' => [Ro enc e size (.slice a (h' ++ zs').length c) (h' ++ zs')])
        he hw hx hd (fun _ _ => hC (y', q) zs') (.cons i hB .nil) (.cons j hR .nil) .nil (fun _ _ h' => ?_) (by rw [hq] at hm; exact hm) ac w hf hp
      intro hm' ac' w' hf' hp'
      refine h (y', tl) hq q zs' h' hm' ac' w' hf' ?_
      refine ⟨hp'.keep, hp'.blk, hp'.rows, hp'.nodup, hp'.fresh, fun φ hφ => ?_⟩
      rcases List.mem_cons.1 hφ with rfl | hφ
      · intro w'' hk
        have h3 := (hp'.per _ (List.mem_of_getElem? hF)) w'' hk
        exact ⟨ht, fun p hp => h3.2 p (List.mem_cons_of_mem _ hp)⟩
      · rcases List.mem_append.1 hφ with hφ | hφ
        · intro w'' hk
          have h3 := (hp'.per _ (List.mem_of_getElem? hF)) w'' hk
          exact h3.2 (y', q) (by simp) φ hφ
        · exact hp'.per φ hφ
end hn
end rules
end SX

namespace SX
open Go Go.Sort Go.Proofs

/-! ### A row that the library sorts by a function -/
def CellsW (w : World) (blk N : Nat) (W : World) : Prop := ∃ (m : Nat) (os : Array Obj) (A : Array Value), A.size = N ∧ W = grow (putRow id (ahead w m) blk 0 A) os
def SortsBy (P : Program) (f g : FuncId) (k : Nat) (arg : List Value → Value) (cb : Array Value) : Prop :=
  ∀ (α : Type) [Inhabited α] (enc : α → List Value), (∀ x, (enc x).length = k) → (∀ x, ∀ v ∈ enc x, v.oneCell' = true) → ∀ (cf : α → α → Int), SWO (ltOf cf) → (∀ x y, ltOf cf x y = false → ltOf cf y x = false → x = y) →
    ∀ (blk cap : Nat) (d : Array α) (w : World),
      (∀ W, CellsW w blk (d.size * k) W → ∀ x y : α, Calls P g (#[arg (enc x), arg (enc y)] ++ cb) W fun e w' => e = .returned (.int .i64 (cf x y)) ∧ ∃ q os', w' = grow (W.drewN q) os') →
      HoldsK enc k w blk 0 d → blk < w.heap.size → d.size < 4611686018427387904 →
      Calls P f #[.slice (some ⟨blk, 0, none⟩) d.size cap, .func (.func g) #[] cb] w fun e w' =>
        e = .returned (.tuple #[]) ∧ ∃ n os, w' = grow (putRow id (ahead w n) blk 0 (flatK enc k (d.toList.mergeSort fun x y => !(ltOf cf) y x).toArray)) os
theorem sortsBy_1 {P : Program} {f g : Nat} {cb : Array Value}
    (h : ∀ (α : Type) [Inhabited α] (enc : α → Value), OneCell enc → ∀ (cf : α → α → Int), SWO (ltOf cf) → ∀ (blk cap : Nat) (d : Array α) (w : World), CmpLays1 P g cb enc cf blk 0 d.size w → Holds enc w blk 0 d → blk < w.heap.size → d.size < 4611686018427387904 → (∀ x y, ltOf cf x y = false → ltOf cf y x = false → x = y) →
      Calls P f #[.slice (some ⟨blk, 0, none⟩) d.size cap, .func (.func g) #[] cb] w fun e w' => e = .returned (.tuple #[]) ∧ ∃ n os, w' = sortWorld enc w blk 0 n (d.toList.mergeSort fun x y => !(ltOf cf) y x).toArray os) :
    SortsBy P f g 1 (fun l => l.getD 0 undef) cb := by
  intro α _ enc hk h1 cf hO hT blk cap d w hc hH hb hsz
  have henc : ∀ x, enc x = [(enc x).getD 0 undef] := fun x => by
    have := hk x
    match he : enc x with
    | [v] => rfl
    | [] => rw [he] at this; simp at this
    | _ :: _ :: _ => rw [he] at this; simp at this
  have hfl : ∀ (dk : Array α), flatK enc 1 dk = dk.map (fun x => (enc x).getD 0 undef) := by
    intro dk
    apply Array.ext
    · simp
    · intro t h1 h2
      have ht : t < dk.size := by simpa using h2
      have h3 := get_flatK enc 1 dk t (by omega)
      rw [getElem!_pos _ t h1] at h3
      rw [h3, Array.getElem_map, Nat.div_one, Nat.mod_one, getElem!_pos dk t ht, henc dk[t]]
      rfl
  have hput : ∀ (w : World) (dk : Array α), putRow (fun x => (enc x).getD 0 undef) w blk 0 dk = putRow id w blk 0 (flatK enc 1 dk) := by
    intro w dk
    unfold putRow
    congr 1
    funext cs
    unfold putCells
    rw [hfl]
    apply Array.ext
    · simp
    · intro t h1 h2
      simp only [Array.getElem_mapIdx, Array.size_map, Nat.sub_zero]
      split
      · rename_i hh
        rw [getElem!_pos (dk.map _) t (by simpa using hh.2), Array.getElem_map, getElem!_pos dk t (by omega)]
        rfl
      · rfl
  have hone : OneCell (fun x => (enc x).getD 0 undef) := fun x => h1 x _ (by rw [henc x]; simp)
  have hm := h α (fun x => (enc x).getD 0 undef) hone cf hO blk cap d w (fun m os dk hdk x y => by
      have := hc _ ⟨m, os, flatK enc 1 dk, by rw [size_flatK, hdk], rfl⟩ x y
      unfold sortWorld
      rw [hput]
      exact this)
    (fun j hj => by
      have := hH j (by simpa using hj)
      have h3 := get_flatK enc 1 d j (by omega)
      rw [h3, Nat.div_one, Nat.mod_one, henc d[j]!] at this
      exact this)
    hb hsz hT
  refine hm.mono fun e' w' ⟨e1, n, os, e2⟩ => ⟨e1, n, os, ?_⟩
  rw [e2]
  unfold sortWorld
  rw [hput]
theorem putCells_id {A cur : Array Value} (h : A.size ≤ cur.size) : (putCells id 0 A cur).toList.take A.size = A.toList := by
  apply List.ext_getElem?
  intro j
  unfold putCells
  by_cases hj : j < A.size
  · have hc : j < cur.size := by omega
    rw [List.getElem?_take_of_lt hj, Array.getElem?_toList, Array.getElem?_mapIdx, Array.getElem?_eq_getElem hc]
    simp only [Option.map_some]
    rw [if_pos (by omega), Nat.sub_zero, getElem!_pos A j hj, Array.getElem?_toList, Array.getElem?_eq_getElem hj]
    rfl
  · rw [List.getElem?_eq_none (by simp; omega), List.getElem?_eq_none (by simp; omega)]
theorem putRow_idAt {w : World} {g e : Nat} {fz : Nat × Nat} {cur A : Array Value} (h : w.heap[g]? = some (.cells cur e fz)) : (putRow id w g 0 A).heap[g]? = some (.cells (putCells id 0 A cur) e fz) := by
  unfold putRow mapBlock
  show (w.heap.modify g _)[g]? = _
  rw [Array.getElem?_modify, if_pos rfl, h]
  rfl
theorem putRow_idOther {w : World} {g k : Nat} {A : Array Value} (h : k ≠ g) : (putRow id w g 0 A).heap[k]? = w.heap[k]? := by
  unfold putRow mapBlock
  show (w.heap.modify g _)[k]? = _
  rw [Array.getElem?_modify, if_neg (fun e => h e.symm)]
theorem putRow_idKeeps {w : World} {g n : Nat} {A : Array Value} {os : Array Obj} : Keeps [g] w (grow (putRow id (ahead w n) g 0 A) os) := by
  have hs : (putRow id (ahead w n) g 0 A).heap.size = w.heap.size := by
    show (w.heap.modify g _).size = _
    simp
  refine ⟨rfl, rfl, rfl, ?_, fun k hk hn => ?_, Nat.le_add_right _ _⟩
  · show w.heap.size ≤ ((putRow id (ahead w n) g 0 A).heap ++ os).size
    rw [Array.size_append]; omega
  · show ((putRow id (ahead w n) g 0 A).heap ++ os)[k]? = _
    rw [Array.getElem?_append_left (by omega), putRow_idOther (by simpa using hn)]
    rfl
theorem Keeps.grown {w w' : World} (h : Keeps [] w w') : ∃ q os, w' = grow (w.drewN q) os := by
  refine ⟨w'.drawn - w.drawn, w'.heap.extract w.heap.size w'.heap.size, ?_⟩
  have h1 := h.os
  have h2 := h.tape
  have h3 := h.output
  have h4 := h.drawn
  have h5 := h.size
  have hh : w'.heap = w.heap ++ w'.heap.extract w.heap.size w'.heap.size := by
    apply Array.ext_getElem?
    intro i
    by_cases hi : i < w.heap.size
    · rw [Array.getElem?_append_left hi]; exact h.block i hi (by simp)
    · rw [Array.getElem?_append_right (by omega), Array.getElem?_extract]
      by_cases hi2 : i < w'.heap.size
      · rw [if_pos (by omega)]; congr 1; omega
      · rw [if_neg (by omega), Array.getElem?_eq_none (by omega)]
  cases w; cases w'
  simp only [grow, World.drewN] at *
  subst h1 h2 h3
  simp only [World.mk.injEq, true_and, and_true]
  exact ⟨hh, by omega⟩

def CmpOk {α : Type} (c : α → α → Option Int) (xs : List α) : Prop :=
  (∀ a ∈ xs, ∀ b ∈ xs, ∃ z, c a b = some z) ∧ SWO (ltOf fun (a b : {x // x ∈ xs}) => (c a.1 b.1).getD 0) ∧
    (∀ a ∈ xs, ∀ b ∈ xs, ltOf (fun a b => (c a b).getD 0) a b = false → ltOf (fun a b => (c a b).getD 0) b a = false → a = b)
def ltO {α : Type} (c : α → α → Option Int) (a b : α) : Bool := decide ((c a b).getD 0 < 0)
def cmpOkB {α : Type} [DecidableEq α] (c : α → α → Option Int) (xs : List α) : Bool :=
  xs.all fun a => !ltO c a a && xs.all fun b => (c a b).isSome && (ltO c a b || ltO c b a || decide (a = b)) && xs.all fun d => (!(ltO c a b && ltO c b d) || ltO c a d) && (ltO c a b || ltO c b d || !ltO c a d)
theorem cmpOk_iff {α : Type} [DecidableEq α] {c : α → α → Option Int} {xs : List α} : cmpOkB c xs = true ↔ CmpOk c xs := by
  unfold cmpOkB CmpOk
  simp only [List.all_eq_true, Bool.and_eq_true, Bool.not_eq_true', Bool.or_eq_true, decide_eq_true_eq, Option.isSome_iff_exists]
  constructor
  · intro h
    refine ⟨fun a ha b hb => ((h a ha).2 b hb).1.1, ⟨fun x => (h x.1 x.2).1, fun x y z h1 h2 => ?_, fun x y z h1 h2 => ?_⟩, fun a ha b hb h1 h2 => ?_⟩
    · rcases (((h x.1 x.2).2 y.1 y.2).2 z.1 z.2).1 with h3 | h3
      · have e1 : ltO c x.1 y.1 = true := h1
        have e2 : ltO c y.1 z.1 = true := h2
        rw [e1, e2] at h3; simp at h3
      · exact h3
    · rcases (((h x.1 x.2).2 y.1 y.2).2 z.1 z.2).2 with (h3 | h3) | h3
      · have e1 : ltO c x.1 y.1 = false := h1
        rw [e1] at h3; simp at h3
      · have e1 : ltO c y.1 z.1 = false := h2
        rw [e1] at h3; simp at h3
      · exact h3
    · rcases ((h a ha).2 b hb).1.2 with (h3 | h3) | h3
      · have e1 : ltO c a b = false := h1
        rw [e1] at h3; simp at h3
      · have e1 : ltO c b a = false := h2
        rw [e1] at h3; simp at h3
      · exact h3
  · rintro ⟨h1, h2, h3⟩ a ha
    refine ⟨h2.irrefl ⟨a, ha⟩, fun b hb => ⟨⟨h1 a ha b hb, ?_⟩, fun d hd => ⟨?_, ?_⟩⟩⟩
    · by_cases e1 : ltO c a b = true
      · exact .inl (.inl e1)
      · by_cases e2 : ltO c b a = true
        · exact .inl (.inr e2)
        · exact .inr (h3 a ha b hb (Bool.eq_false_iff.2 e1) (Bool.eq_false_iff.2 e2))
    · by_cases e1 : ltO c a b = true
      · by_cases e2 : ltO c b d = true
        · exact .inr (h2.trans ⟨a, ha⟩ ⟨b, hb⟩ ⟨d, hd⟩ e1 e2)
        · left; simp [e2]
      · left; simp [e1]
    · by_cases e1 : ltO c a b = true
      · exact .inl (.inl e1)
      · by_cases e2 : ltO c b d = true
        · exact .inl (.inr e2)
        · exact .inr (h2.ntrans ⟨a, ha⟩ ⟨b, hb⟩ ⟨d, hd⟩ (Bool.eq_false_iff.2 e1) (Bool.eq_false_iff.2 e2))
def sortedF {α : Type} (c : α → α → Option Int) (xs : List α) : List α :=
  ((xs.attach).mergeSort fun x y => !(ltOf fun (a b : {x // x ∈ xs}) => (c a.1 b.1).getD 0) y x).map (·.1)
def sortF {α : Type} [DecidableEq α] (c : α → α → Option Int) (xs : List α) : Option (List α) :=
  if cmpOkB c xs = true ∧ xs.length < 4611686018427387904 then some (sortedF c xs) else none
theorem sortedF_len {α : Type} (c : α → α → Option Int) (xs : List α) : (sortedF c xs).length = xs.length := by
  unfold sortedF; rw [List.length_map, List.length_mergeSort, List.length_attach]
theorem sortedF_perm {α : Type} (c : α → α → Option Int) (xs : List α) : (sortedF c xs).Perm xs := by
  unfold sortedF
  have h := (List.mergeSort_perm xs.attach fun x y => !(ltOf fun (a b : {x // x ∈ xs}) => (c a.1 b.1).getD 0) y x).map (·.1)
  have e : xs.attach.map (·.1) = xs := by simp
  rw [e] at h
  exact h
theorem sortedF_pw {α : Type} {c : α → α → Option Int} {xs : List α} (h : CmpOk c xs) : (sortedF c xs).Pairwise fun a b => ∀ z, c b a = some z → ¬ z < 0 := by
  unfold sortedF
  rw [List.pairwise_map]
  have hS := h.2.1
  have := List.pairwise_mergeSort (le := fun x y => !(ltOf fun (a b : {x // x ∈ xs}) => (c a.1 b.1).getD 0) y x)
    (fun a b d h1 h2 => by
      simp only [Bool.not_eq_true'] at *
      exact hS.ntrans d b a h2 h1)
    (fun a b => by
      simp only [Bool.or_eq_true, Bool.not_eq_true']
      by_cases hb : (ltOf fun (a b : {x // x ∈ xs}) => (c a.1 b.1).getD 0) b a = true
      · right
        by_cases ha : (ltOf fun (a b : {x // x ∈ xs}) => (c a.1 b.1).getD 0) a b = true
        · have := hS.trans a b a ha hb; rw [hS.irrefl] at this; simp at this
        · simpa using ha
      · left; simpa using hb) xs.attach
  refine this.imp fun {a b} hab z hz => ?_
  simp only [Bool.not_eq_true', ltOf, hz, Option.getD_some, decide_eq_false_iff_not] at hab
  exact hab
section
variable {P : Program}
theorem Pure.toM {f : FuncId} {vs : List Value} {Φ : List (World → Prop)} {γ : Type} {V : γ → Value} {RW : γ → List RowD} (h : Pure P f vs Φ γ V RW (fun _ => [])) : PureM P f vs [] [] Φ γ V (fun _ => []) RW := by
  intro w hp
  refine (h w hp).mono fun e w' ⟨g, h1, h2⟩ => ⟨g, h1, ?_⟩
  exact { keep := h2.keep, blk := by simp, rows := h2.rows, nodup := h2.nodup, fresh := fun k hk => .inr (h2.fresh k hk), per := by simp }
theorem flat_list {α : Type} [Inhabited α] {enc : α → List Value} {k : Nat} (henc : EncOk enc k) (xs : List α) : (flatK enc k xs.toArray).toList = xs.flatMap enc := by
  have hl : (xs.flatMap enc).length = xs.length * k := flatMap_len henc xs
  apply List.ext_getElem?
  intro t
  by_cases ht : t < xs.length * k
  · have hk0 : 0 < k := by
      rcases Nat.eq_zero_or_pos k with h | h
      · subst h; simp at ht
      · exact h
    have hq : t / k < xs.length := Nat.div_lt_of_lt_mul (by rw [Nat.mul_comm]; exact ht)
    have hr : t % k < k := Nat.mod_lt _ hk0
    have e : t / k * k + t % k = t := by rw [Nat.mul_comm]; exact Nat.div_add_mod t k
    have hr' : t % k < (enc xs[t / k]).length := by rw [henc.len]; exact hr
    have h1 := flatMap_get henc xs (t / k) xs[t / k] (t % k) _ (List.getElem?_eq_getElem hq) (List.getElem?_eq_getElem hr')
    rw [e] at h1
    rw [h1, Array.getElem?_toList]
    have h2 := get_flatK enc k xs.toArray t (by simpa using ht)
    rw [Array.getElem?_eq_getElem (by simpa using ht)]
    rw [getElem!_pos _ t (by simpa using ht)] at h2
    rw [h2]
    congr 1
    have e3 : xs.toArray[t / k]! = xs[t / k] := by rw [getElem!_pos _ _ (by simpa using hq)]; simp
    rw [e3, getElem!_pos (enc xs[t / k]) (t % k) hr']
  · rw [List.getElem?_eq_none (by simp; omega), List.getElem?_eq_none (by omega)]
theorem keepsC {BC : List BlkD} {W w' : World} {F : List (World → Prop)} (h1 : ∀ b ∈ BC, b.is W) (h : Hp (muts BC []) W w' BC [] F) : Keeps [] W w' := by
  refine ⟨h.keep.os, h.keep.tape, h.keep.output, h.keep.size, fun k hk _ => ?_, h.keep.drawn⟩
  by_cases hm : k ∈ muts BC []
  · simp only [muts, List.flatMap_nil, List.append_nil] at hm
    obtain ⟨b, hb, rfl⟩ := List.mem_map.1 hm
    rw [show w'.heap[b.g]? = some b.obj from h.blk b hb, show W.heap[b.g]? = some b.obj from h1 b hb]
  · exact h.keep.block k hk hm
theorem sortf_pureM {α : Type} [DecidableEq α] {enc : α → List Value} {f g : FuncId} {k : Nat} {e : TypeId} {a : Option Addr} {c : Nat} {xs r : List α} {cb : List Value} {BC : List BlkD} {Φ : List (World → Prop)} {arg : List Value → Value} {cmp : α → α → Option Int} (henc : EncOk enc k) (_hk0 : k ≠ 0)
    (hs : SortsBy P f g k arg cb.toArray) (hn : ∀ (p : Option Addr) (cap : Nat) (w : World), Calls P f #[.slice p 0 cap, .func (.func g) #[] cb.toArray] w fun e w' => e = .returned (.tuple #[]) ∧ w' = w)
    (hC : ∀ x y z, cmp x y = some z → PureM P g ([arg (enc x), arg (enc y)] ++ cb) BC [] Φ Unit (fun _ => .int .i64 z) (fun _ => BC) (fun _ => [])) (hr : sortF cmp xs = some r) :
    PureM P f [.slice a xs.length c, .func (.func g) #[] cb.toArray] BC [Ro enc e k (.slice a xs.length c) xs] Φ Unit (fun _ => .tuple #[]) (fun _ => BC) (fun _ => [Ro enc e k (.slice a r.length c) r]) := by
  intro w hp
  unfold sortF at hr
  split at hr
  · rename_i hok
    obtain ⟨hok, hlen⟩ := hok
    replace hok := cmpOk_iff.1 hok
    simp only [Option.some.injEq] at hr
    have hrl : r.length = xs.length := by rw [← hr, sortedF_len]
    have hown := hp.row _ (List.mem_singleton.2 rfl)
    have hp0 : Hp (muts BC [Ro enc e k (.slice a xs.length c) xs]) w w BC [Ro enc e k (.slice a xs.length c) xs] [] := hp.weaken (List.Sublist.refl _) (List.Sublist.refl _) (fun φ h => by simp at h)
    have hnil : xs = [] → Calls P f #[.slice a xs.length c, .func (.func g) #[] cb.toArray] w fun e' w' => ∃ _ : Unit, e' = .returned (.tuple #[]) ∧ Hp (muts BC [Ro enc e k (.slice a xs.length c) xs]) w w' BC [Ro enc e k (.slice a r.length c) r] [] := by
      intro hx
      subst hx
      have hr0 : r = [] := List.length_eq_zero_iff.1 (by simpa using hrl)
      subst hr0
      exact (hn a c w).mono (fun e' w' ⟨h1, h2⟩ => ⟨(), h1, by rw [h2]; exact hp0⟩)
    by_cases hx : xs = []
    · exact hnil hx
    rcases hown.2 with ⟨h5, h6⟩ | ⟨g0, cap, cur, h5, _, hgg, hnc, hcm, hcs, htake⟩
    · have h6' : xs.length = 0 := h6
      exact absurd (List.length_eq_zero_iff.1 h6') hx
    · have h5' : Value.slice a xs.length c = .slice (some ⟨g0, 0, none⟩) xs.length cap := h5
      simp only [Value.slice.injEq, true_and] at h5'
      obtain ⟨rfl, rfl⟩ := h5'
      have hgg' : w.heap[g0]? = some (.cells cur e (0, 0)) := hgg
      have htake' : cur.toList.take (xs.length * k) = xs.flatMap enc := htake
      have hcs' : cur.size = c * k := hcs
      have hnc' : xs.length ≤ c := hnc
      have hmul : xs.length * k ≤ c * k := Nat.mul_le_mul_right _ hnc'
      have hlt := (Array.getElem?_eq_some_iff.1 hgg').1
      obtain ⟨x0, hx0⟩ := List.exists_mem_of_ne_nil xs hx
      haveI : Inhabited {x // x ∈ xs} := ⟨⟨x0, hx0⟩⟩
      have henc' : EncOk (fun x : {x // x ∈ xs} => enc x.1) k := ⟨fun x => henc.len x.1, fun x => henc.ok x.1⟩
      have hfa : xs.attach.flatMap (fun x : {x // x ∈ xs} => enc x.1) = xs.flatMap enc := by
        have : xs.flatMap enc = (xs.attach.map (·.1)).flatMap enc := by simp
        rw [this, List.flatMap_map]
      have hd : xs.attach.toArray.size = xs.length := by simp
      have hdis : ∀ b ∈ BC, b.g ≠ g0 := by
        intro b hb he
        have hnd := hp.nodup
        unfold muts at hnd
        rw [List.nodup_append] at hnd
        refine hnd.2.2 b.g (List.mem_map.2 ⟨b, hb, rfl⟩) g0 ?_ he
        rw [List.flatMap_cons, List.flatMap_nil, List.append_nil]
        exact RowD.blocks_v rfl
      have hmain := hs {x // x ∈ xs} (fun x => enc x.1) henc'.len (fun x v hv => by have := henc.ok x.1; exact List.all_eq_true.1 this v hv) (fun a b => (cmp a.1 b.1).getD 0) hok.2.1 (fun x y h1 h2 => Subtype.ext (hok.2.2 x.1 x.2 y.1 y.2 h1 h2)) g0 c xs.attach.toArray w
        (fun W hW x y => by
          obtain ⟨m, os, A, hA, hW⟩ := hW
          obtain ⟨z, hz⟩ := hok.1 x.1 x.2 y.1 y.2
          have hkW : Keeps [g0] w W := by rw [hW]; exact putRow_idKeeps
          have hpW : Hp (muts BC []) W W BC [] Φ := by
            refine { keep := Keeps.refl _ _, blk := fun b hb => blk_kept (hp.blk b hb) hkW (by simpa using hdis b hb), rows := by simp, nodup := ?_, fresh := fun _ hg => .inl hg, per := fun φ hφ => ?_ }
            · exact hp.nodup.sublist (by unfold muts; exact (List.Sublist.refl _).append (List.nil_sublist _))
            · refine (hp.per φ hφ).step (hkW.wider ?_) fun q hq => .inl ?_
              · intro q hq
                simp only [List.mem_singleton] at hq
                subst hq
                refine List.mem_append.2 (.inr ?_)
                rw [List.flatMap_cons, List.flatMap_nil, List.append_nil]
                exact RowD.blocks_v rfl
              · unfold muts at hq ⊢
                rw [List.flatMap_nil, List.append_nil] at hq
                exact List.mem_append.2 (.inl hq)
          have hcall := hC x.1 y.1 z hz W hpW
          have e1 : ([arg (enc x.1), arg (enc y.1)] ++ cb).toArray = #[arg (enc x.1), arg (enc y.1)] ++ cb.toArray := by simp
          rw [e1] at hcall
          refine hcall.mono fun e' w' ⟨_, h1, h2⟩ => ⟨by rw [h1, hz]; rfl, ?_⟩
          exact (keepsC hpW.blk h2).grown)
        (fun j hj => by
          have hj' : j < xs.length * k := by simpa using hj
          have h1 : (flatK (fun x : {x // x ∈ xs} => enc x.1) k xs.attach.toArray).toList = cur.toList.take (xs.length * k) := by rw [flat_list henc' xs.attach, hfa, htake']
          have h2 : cur[j]? = some ((flatK (fun x : {x // x ∈ xs} => enc x.1) k xs.attach.toArray)[j]!) := by
            have h3 := congrArg (fun l => l[j]?) h1
            simp only [List.getElem?_take_of_lt hj', Array.getElem?_toList] at h3
            rw [← h3, getElem!_pos _ j hj, Array.getElem?_eq_getElem hj]
          refine ⟨?_, ?_⟩
          · rw [Nat.zero_add]
            simp [World.cell?, hgg', h2]
          · simp [World.frozen?, hgg'])
        hlt (by rw [hd]; exact hlen)
      rw [hd] at hmain
      refine hmain.mono fun e' w' ⟨h1, q, os, h2⟩ => ⟨(), h1, ?_⟩
      subst h2
      have hflat : (flatK (fun x : {x // x ∈ xs} => enc x.1) k (xs.attach.toArray.toList.mergeSort fun x y => !(ltOf fun (a b : {x // x ∈ xs}) => (cmp a.1 b.1).getD 0) y x).toArray).toList = r.flatMap enc := by
        rw [flat_list henc', ← hr]
        unfold sortedF
        rw [List.flatMap_map]
      generalize hA : flatK (fun x : {x // x ∈ xs} => enc x.1) k (xs.attach.toArray.toList.mergeSort fun x y => !(ltOf fun (a b : {x // x ∈ xs}) => (cmp a.1 b.1).getD 0) y x).toArray = A at hflat
      have hAs : A.size = xs.length * k := by
        have := congrArg List.length hflat
        rw [flatMap_len henc r, hrl] at this
        simpa using this
      refine hp0.swapRow (i := 0) rfl ?_ (.inl ⟨rfl, putRow_idKeeps⟩)
      have hz : ((putRow id (ahead w q) g0 0 A).heap ++ os)[g0]? = some (.cells (putCells id 0 A cur) e (0, 0)) := by
        have h3 := putRow_idAt (w := ahead w q) (A := A) hgg'
        rw [Array.getElem?_append_left ((Array.getElem?_eq_some_iff.1 h3).1)]
        exact h3
      refine ⟨flatMap_len henc r, .inr ⟨g0, c, _, rfl, Nat.zero_le _, hz, ?_, hcm, ?_, ?_⟩⟩
      · show r.length ≤ c; rw [hrl]; exact hnc'
      · show _ = c * k; simp [putCells, hcs']
      · show (putCells id 0 A cur).toList.take (r.length * k) = r.flatMap enc
        rw [hrl, ← hAs, putCells_id (by omega), hflat]
  · simp at hr
theorem sortF_eq {α : Type} [DecidableEq α] {c : α → α → Option Int} {xs zs : List α} {lt : α → α → Prop} (hc : ∀ a ∈ xs, ∀ b ∈ xs, ∃ z, c a b = some z ∧ (z < 0 ↔ lt a b))
    (hi : ∀ a, ¬ lt a a) (ht : ∀ a b d, lt a b → lt b d → lt a d) (hto : ∀ a b, lt a b ∨ a = b ∨ lt b a) (hl : xs.length < 4611686018427387904) (hp : zs.Perm xs) (hs : zs.Pairwise fun a b => ¬ lt b a) : sortF c xs = some zs := by
  have hlt : ∀ a ∈ xs, ∀ b ∈ xs, ((c a b).getD 0 < 0 ↔ lt a b) := fun a ha b hb => by
    obtain ⟨z, h1, h2⟩ := hc a ha b hb
    rw [h1]; exact h2
  have hok : CmpOk c xs := by
    refine ⟨fun a ha b hb => by obtain ⟨z, h1, _⟩ := hc a ha b hb; exact ⟨z, h1⟩, ⟨fun x => ?_, fun x y z h1 h2 => ?_, fun x y z h1 h2 => ?_⟩, fun a ha b hb h1 h2 => ?_⟩
    · simp only [ltOf, decide_eq_false_iff_not]; rw [hlt _ x.2 _ x.2]; exact hi _
    · simp only [ltOf, decide_eq_true_eq] at *; rw [hlt _ x.2 _ y.2] at h1; rw [hlt _ y.2 _ z.2] at h2; rw [hlt _ x.2 _ z.2]; exact ht _ _ _ h1 h2
    · simp only [ltOf, decide_eq_false_iff_not] at *; rw [hlt _ x.2 _ y.2] at h1; rw [hlt _ y.2 _ z.2] at h2; rw [hlt _ x.2 _ z.2]
      intro h3
      rcases hto x.1 y.1 with h | h | h
      · exact h1 h
      · rw [h] at h3; exact h2 h3
      · exact h2 (ht _ _ _ h h3)
    · simp only [ltOf, decide_eq_false_iff_not] at *; rw [hlt _ ha _ hb] at h1; rw [hlt _ hb _ ha] at h2
      rcases hto a b with h | h | h
      · exact absurd h h1
      · exact h
      · exact absurd h h2
  unfold sortF
  rw [if_pos ⟨cmpOk_iff.2 hok, hl⟩]
  congr 1
  have hp2 := sortedF_perm c xs
  refine List.Perm.eq_of_pairwise (le := fun a b => ¬ lt b a) (fun a b _ _ h1 h2 => ?_) ?_ hs (hp2.trans hp.symm)
  · rcases hto a b with h | h | h
    · exact absurd h h2
    · exact h
    · exact absurd h h1
  · refine (sortedF_pw hok).imp_of_mem fun {a b} ha hb h => ?_
    have ha' := hp2.mem_iff.1 ha
    have hb' := hp2.mem_iff.1 hb
    obtain ⟨z, h1, h2⟩ := hc b hb' a ha'
    exact fun h3 => h z h1 (h2.2 h3)
end
end SX

namespace SX
open Go Go.ChangeShapes Go.WideShapes Go.ChangeAt Go.RowKit Go.Joins Go.Deep

variable {H : Type} {enc : TypeId × Value → H} {P : Program}
theorem agg_cells {W : World} {base : Nat} {t : TypeId} {ts : List TypeId} {fs : Array Field} {cs : Array Value} (hs : P.underlying t = some (.struct fs)) (hts : P.cellTypes P.depth t = some ts) (hv : Value.okWide P W .any base t (.agg cs)) :
    ∀ i v u, i < ts.length → cs[i]? = some v → ts[i]? = some u → Cell.okWide P W .any base u v := by
  unfold Value.okWide at hv
  rw [hs] at hv
  obtain ⟨cs', he, _, ts', h1, _, h2⟩ := hv
  cases he
  rw [hts] at h1
  cases h1
  intro i v u hi hc hu
  obtain ⟨u', h3, h4⟩ := h2 i v hc
  rw [Nat.mod_eq_of_lt hi, hu] at h3
  cases h3
  exact h4
theorem arg_int_slice {W : World} {base : Nat} {t e : TypeId} {f0 f1 : Field} {k0 k1 : IntKind} {v : Value} {d : DataW H} {p : List MemPlace} (hs : P.underlying t = some (.struct #[f0, f1])) (hone : oneCellFields P #[f0, f1] = true) (hC : P.cellsOf t = 2) (hts : P.cellTypes P.depth t = some [f0.type, f1.type])
    (h0 : P.underlying f0.type = some (.int k0)) (h1 : P.underlying f1.type = some (.slice e)) (he : P.underlying e = some (.int k1)) (hc : P.cellsOf e = 1)
    (hval : Value.okWide P W .any base t v) (h : DataW.Trod enc P W 0 (fun _ => true) true t v d p) :
    ∃ (n : Int) (a : Option Addr) (cap : Nat) (xs : List Int), v = .agg #[.int k0 n, .slice a xs.length cap] ∧ (Lit.int k0 n).wf = true ∧ Nec W [] (Sl (eI k1) 1 (.slice a xs.length cap) xs) ∧ (∀ n ∈ xs, (Lit.int k1 n).wf = true) ∧ xs.length ≤ maxLen := by
  obtain ⟨v0, v1, y0, y1, n, rfl, rfl, rfl, t0, t1⟩ := open_agg2 hs hone hC hval h
  have hcell := agg_cells hs hts hval
  have c0 := hcell 0 v0 f0.type (by simp) rfl rfl
  have c1 := hcell 1 v1 f1.type (by simp) rfl rfl
  have o0 : Value.okWide P W .any base f0.type v0 := by unfold Value.okWide; rw [h0]; exact c0
  have o1 : Value.okWide P W .any base f1.type v1 := by unfold Value.okWide; rw [h1]; exact c1
  have v0c : v0.cells = #[v0] := by
    obtain ⟨x, rfl⟩ := okWide_int h0 o0
    rfl
  have v1c : v1.cells = #[v1] := by
    obtain ⟨a, l, c, rfl⟩ := okWide_slice h1 o1
    rfl
  obtain ⟨x, rfl, _, _, wx⟩ := open_int h0 o0 (d := y0.1) (ps := y0.2) ⟨n, by rw [v0c]; exact t0⟩
  obtain ⟨a, cap, xs, rfl, hn, hw, hm⟩ := arg_ints h1 he hc o1 (d := y1.1) (p := y1.2) ⟨n, by rw [v1c]; exact t1⟩
  exact ⟨x, a, cap, xs, rfl, wx, hn, hw, hm⟩
end SX

namespace SX
open Go Go.ChangeShapes Go.WideShapes Go.ChangeAt Go.RowKit Go.Joins Go.Deep

variable {H : Type} {enc : TypeId × Value → H} {P : Program}
theorem trod_field {w : World} {base : Nat} {spare : Nat → Bool} {held : Bool} {t : TypeId} {fs : Array Field} {fuel : Nat} {cs cs' : List Value} {x : DataW H × List MemPlace} {i k : Nat} {f : Field} (ht : P.underlying t = some (.struct fs)) (hi : fs[i]? = some f) (hk : P.cellsOf f.type = k) (hc : (cs.drop f.offset).take k = cs') (h : DataW.trod enc P w base spare held fuel t cs = some x) :
    ∃ n y, DataW.trod enc P w base spare held n f.type cs' = some y := by
  obtain ⟨xs, n, _, rfl, hl, hlen, hf⟩ := DataW.trod_struct ht h
  have h1 := hf i f hi
  obtain ⟨hlt, _⟩ := Array.getElem?_eq_some_iff.1 hi
  have hlt' : i < xs.length := by omega
  refine ⟨n, xs[i], ?_⟩
  rw [← hc, ← hk, h1, List.getElem?_eq_getElem hlt']
theorem leaf_int {W : World} {base n : Nat} {t : TypeId} {k : IntKind} {v : Value} {y : DataW H × List MemPlace} (h0 : P.underlying t = some (.int k)) (hc : Cell.okWide P W .any base t v) (h : DataW.trod enc P W 0 (fun _ => true) true n t [v] = some y) :
    ∃ x, v = .int k x ∧ (Lit.int k x).wf = true := by
  have o0 : Value.okWide P W .any base t v := by unfold Value.okWide; rw [h0]; exact hc
  have vc : v.cells = #[v] := by
    obtain ⟨x, rfl⟩ := okWide_int h0 o0
    rfl
  obtain ⟨x, rfl, _, _, wx⟩ := open_int h0 o0 (d := y.1) (ps := y.2) ⟨n, by rw [vc]; exact h⟩
  exact ⟨x, rfl, wx⟩
theorem leaf_bool {W : World} {base n : Nat} {t : TypeId} {v : Value} {y : DataW H × List MemPlace} (h0 : P.underlying t = some .bool) (hc : Cell.okWide P W .any base t v) (_ : DataW.trod enc P W 0 (fun _ => true) true n t [v] = some y) :
    ∃ x : Bool, v = .bool x := by
  have o0 : Value.okWide P W .any base t v := by unfold Value.okWide; rw [h0]; exact hc
  exact okWide_bool h0 o0
theorem leaf_ints {W : World} {base n : Nat} {t e : TypeId} {k : IntKind} {v : Value} {y : DataW H × List MemPlace} (h1 : P.underlying t = some (.slice e)) (he : P.underlying e = some (.int k)) (hc1 : P.cellsOf e = 1) (hc : Cell.okWide P W .any base t v) (h : DataW.trod enc P W 0 (fun _ => true) true n t [v] = some y) :
    ∃ (a : Option Addr) (cap : Nat) (xs : List Int), v = .slice a xs.length cap ∧ Nec W [] (Sl (eI k) 1 v xs) ∧ (∀ n ∈ xs, (Lit.int k n).wf = true) ∧ xs.length ≤ maxLen := by
  have o1 : Value.okWide P W .any base t v := by unfold Value.okWide; rw [h1]; exact hc
  have vc : v.cells = #[v] := by
    obtain ⟨a, l, c, rfl⟩ := okWide_slice h1 o1
    rfl
  exact arg_ints h1 he hc1 o1 (d := y.1) (p := y.2) ⟨n, by rw [vc]; exact h⟩
theorem arr1 {α : Type} {cs : Array α} (h : cs.size = 1) : ∃ c0, cs = #[c0] := by
  obtain ⟨l⟩ := cs
  match l, h with
  | [c0], _ => exact ⟨c0, rfl⟩
theorem arr2 {α : Type} {cs : Array α} (h : cs.size = 2) : ∃ c0 c1, cs = #[c0, c1] := by
  obtain ⟨l⟩ := cs
  match l, h with
  | [c0, c1], _ => exact ⟨c0, c1, rfl⟩
theorem arr3 {α : Type} {cs : Array α} (h : cs.size = 3) : ∃ c0 c1 c2, cs = #[c0, c1, c2] := by
  obtain ⟨l⟩ := cs
  match l, h with
  | [c0, c1, c2], _ => exact ⟨c0, c1, c2, rfl⟩
theorem arr4 {α : Type} {cs : Array α} (h : cs.size = 4) : ∃ c0 c1 c2 c3, cs = #[c0, c1, c2, c3] := by
  obtain ⟨l⟩ := cs
  match l, h with
  | [c0, c1, c2, c3], _ => exact ⟨c0, c1, c2, c3, rfl⟩
theorem arr5 {α : Type} {cs : Array α} (h : cs.size = 5) : ∃ c0 c1 c2 c3 c4, cs = #[c0, c1, c2, c3, c4] := by
  obtain ⟨l⟩ := cs
  match l, h with
  | [c0, c1, c2, c3, c4], _ => exact ⟨c0, c1, c2, c3, c4, rfl⟩
theorem arr6 {α : Type} {cs : Array α} (h : cs.size = 6) : ∃ c0 c1 c2 c3 c4 c5, cs = #[c0, c1, c2, c3, c4, c5] := by
  obtain ⟨l⟩ := cs
  match l, h with
  | [c0, c1, c2, c3, c4, c5], _ => exact ⟨c0, c1, c2, c3, c4, c5, rfl⟩
theorem arr7 {α : Type} {cs : Array α} (h : cs.size = 7) : ∃ c0 c1 c2 c3 c4 c5 c6, cs = #[c0, c1, c2, c3, c4, c5, c6] := by
  obtain ⟨l⟩ := cs
  match l, h with
  | [c0, c1, c2, c3, c4, c5, c6], _ => exact ⟨c0, c1, c2, c3, c4, c5, c6, rfl⟩
theorem arr8 {α : Type} {cs : Array α} (h : cs.size = 8) : ∃ c0 c1 c2 c3 c4 c5 c6 c7, cs = #[c0, c1, c2, c3, c4, c5, c6, c7] := by
  obtain ⟨l⟩ := cs
  match l, h with
  | [c0, c1, c2, c3, c4, c5, c6, c7], _ => exact ⟨c0, c1, c2, c3, c4, c5, c6, c7, rfl⟩
theorem arr9 {α : Type} {cs : Array α} (h : cs.size = 9) : ∃ c0 c1 c2 c3 c4 c5 c6 c7 c8, cs = #[c0, c1, c2, c3, c4, c5, c6, c7, c8] := by
  obtain ⟨l⟩ := cs
  match l, h with
  | [c0, c1, c2, c3, c4, c5, c6, c7, c8], _ => exact ⟨c0, c1, c2, c3, c4, c5, c6, c7, c8, rfl⟩
theorem arr10 {α : Type} {cs : Array α} (h : cs.size = 10) : ∃ c0 c1 c2 c3 c4 c5 c6 c7 c8 c9, cs = #[c0, c1, c2, c3, c4, c5, c6, c7, c8, c9] := by
  obtain ⟨l⟩ := cs
  match l, h with
  | [c0, c1, c2, c3, c4, c5, c6, c7, c8, c9], _ => exact ⟨c0, c1, c2, c3, c4, c5, c6, c7, c8, c9, rfl⟩
theorem arr11 {α : Type} {cs : Array α} (h : cs.size = 11) : ∃ c0 c1 c2 c3 c4 c5 c6 c7 c8 c9 c10, cs = #[c0, c1, c2, c3, c4, c5, c6, c7, c8, c9, c10] := by
  obtain ⟨l⟩ := cs
  match l, h with
  | [c0, c1, c2, c3, c4, c5, c6, c7, c8, c9, c10], _ => exact ⟨c0, c1, c2, c3, c4, c5, c6, c7, c8, c9, c10, rfl⟩
theorem arr12 {α : Type} {cs : Array α} (h : cs.size = 12) : ∃ c0 c1 c2 c3 c4 c5 c6 c7 c8 c9 c10 c11, cs = #[c0, c1, c2, c3, c4, c5, c6, c7, c8, c9, c10, c11] := by
  obtain ⟨l⟩ := cs
  match l, h with
  | [c0, c1, c2, c3, c4, c5, c6, c7, c8, c9, c10, c11], _ => exact ⟨c0, c1, c2, c3, c4, c5, c6, c7, c8, c9, c10, c11, rfl⟩
end SX

namespace SX
open Go Go.ChangeShapes Go.WideShapes Go.ChangeAt Go.RowKit Go.Joins Go.Deep

theorem flatMap_div {α : Type} {enc : α → List Value} {size : Nat} (h : EncOk enc size) (h0 : 0 < size) : ∀ (xs : List α) (j : Nat) (u : Value), (xs.flatMap enc)[j]? = some u → ∃ x, xs[j / size]? = some x ∧ (enc x)[j % size]? = some u
  | [], j, u, hj => by simp at hj
  | x :: xs, j, u, hj => by
    rw [List.flatMap_cons] at hj
    by_cases hlt : j < size
    · rw [List.getElem?_append_left (by rw [h.len]; exact hlt)] at hj
      exact ⟨x, by rw [Nat.div_eq_of_lt hlt]; rfl, by rw [Nat.mod_eq_of_lt hlt]; exact hj⟩
    · rw [List.getElem?_append_right (by rw [h.len]; omega), h.len] at hj
      obtain ⟨y, h1, h2⟩ := flatMap_div h h0 xs (j - size) u hj
      have e1 : j / size = (j - size) / size + 1 := by
        rw [← Nat.add_div_right _ h0]; congr 1; omega
      have e2 : j % size = (j - size) % size := Nat.mod_eq_sub_mod (by omega)
      exact ⟨y, by rw [e1, List.getElem?_cons_succ]; exact h1, by rw [e2]; exact h2⟩
variable {H : Type} {enc : TypeId × Value → H} {P : Program}
theorem arg_slice {α : Type} {enc' : α → List Value} {good : α → Prop} {size : Nat} (henc : EncOk enc' size) (h0 : 0 < size) {W : World} {base : Nat} {t e : TypeId} {v : Value} {d : DataW H} {p : List MemPlace} (ht : P.underlying t = some (.slice e)) (hc : P.cellsOf e = size)
    (hopen : ∀ n cs y, DataW.trod enc P W 0 (fun _ => true) true n e cs = some y → cs.length = size → ∃ x : α, cs = enc' x ∧ good x)
    (hval : Value.okWide P W .any base t v) (h : DataW.Trod enc P W 0 (fun _ => true) true t v d p) :
    ∃ (a : Option Addr) (cap : Nat) (xs : List α), v = .slice a xs.length cap ∧ Nec W [] (Sl enc' size v xs) ∧ (∀ x ∈ xs, good x) ∧ xs.length ≤ maxLen := by
  obtain ⟨a0, len0, cap0, rfl⟩ := okWide_slice ht hval
  obtain ⟨fuel, hf⟩ := h
  rcases open_slice ht hf with ⟨hcs, _⟩ | ⟨a, len, cap, m, n, D, Pl, hcs, _, hle, hmax, hmm, _, hx⟩
  · simp [Value.cells] at hcs
    obtain ⟨rfl, rfl, rfl⟩ := hcs
    refine ⟨none, 0, [], rfl, nec_cells ⟨⟨none, 0, rfl, Nat.le_refl _, by simp, by simp, fun j u hj => by simp at hj⟩, by simp⟩ (by simp), by simp, by simp⟩
  · simp [Value.cells] at hcs
    obtain ⟨rfl, rfl, rfl⟩ := hcs
    simp only [if_true] at hmm
    subst hmm
    have hspot : a.spot = none := by
      have hv : Cell.okWide P W .any base t (.slice (some a) len0 m) := by
        unfold Value.okWide at hval
        rw [ht] at hval
        exact hval
      unfold Cell.okWide Cell.ok at hv
      rw [ht] at hv
      simp only at hv
      exact hv.2.2.2.1
    have each : ∀ i, i < m → ∃ x : α, W.cells? 0 (a.add (i * size)) size = some (enc' x) ∧ good x := by
      intro i hi
      obtain ⟨cs', h1, h2⟩ := hx i hi
      rw [hc] at h1
      obtain ⟨x, rfl, hg⟩ := hopen n cs' _ h2 (World.cells?_some h1).2.1
      exact ⟨x, h1, hg⟩
    by_cases hm0 : m = 0
    · subst hm0
      have hl0 : len0 = 0 := by omega
      subst hl0
      refine ⟨some a, 0, [], rfl, nec_cells ⟨⟨some a, 0, rfl, Nat.le_refl _, by simp, fun ad e => by cases e; exact .inr hspot, fun j u hj => by simp at hj⟩, by simp⟩ (fun ad l c e hne => absurd rfl hne), by simp, by simp⟩
    · obtain ⟨x0, _⟩ := each 0 (by omega)
      haveI : Inhabited α := ⟨x0⟩
      obtain ⟨X, hX⟩ := choose_lt each
      have hL : ((List.range len0).map X).length = len0 := by simp
      have hcell : ∀ j u, (((List.range len0).map X).flatMap enc')[j]? = some u → W.cell? ⟨a.block, a.off + j, none⟩ = some u := by
        intro j u hj
        obtain ⟨x, h1, h2⟩ := flatMap_div henc h0 _ j u hj
        rw [List.getElem?_map] at h1
        cases hr : (List.range len0)[j / size]? with
        | none => rw [hr] at h1; simp at h1
        | some i =>
          rw [hr] at h1
          simp only [Option.map_some, Option.some.injEq] at h1
          subst h1
          have hi := (List.getElem?_eq_some_iff.1 hr)
          obtain ⟨hi1, hi2⟩ := hi
          simp only [List.length_range] at hi1
          simp only [List.getElem_range] at hi2
          subst hi2
          obtain ⟨_, _, hcl⟩ := World.cells?_some (hX (j / size) (by omega)).1
          have hmod : j % size < size := Nat.mod_lt _ h0
          have := hcl (j % size) hmod
          rw [h2] at this
          rw [addr_add' _ _ hspot, addr_add] at this
          rw [← this]
          congr 2
          rw [Nat.add_assoc, Nat.div_add_mod' j size]
      refine ⟨some a, m, (List.range len0).map X, by rw [hL], ?_, ?_, by rw [hL]; omega⟩
      · refine nec_cells ⟨⟨some a, m, by rw [hL], by rw [hL]; exact hle, hmax, fun ad e => by cases e; exact .inr hspot, fun j u hj => ⟨a, rfl, hcell j u hj⟩⟩, flatMap_len henc _⟩ fun ad l c e hne => ?_
        cases e
        have hpos : 0 < (((List.range len0).map X).flatMap enc').length := List.length_pos_iff.2 hne
        have := hcell 0 _ (List.getElem?_eq_getElem hpos)
        unfold World.cell? at this
        cases hh : W.heap[a.block]? with
        | none => simp only [hh] at this; simp at this
        | some o => exact (Array.getElem?_eq_some_iff.1 hh).1
      · intro x hx'
        obtain ⟨i, hi, rfl⟩ := List.mem_map.1 hx'
        exact (hX i (by have := List.mem_range.1 hi; omega)).2
theorem arg_pairs {W : World} {base : Nat} {t e : TypeId} {f0 f1 : Field} {k0 k1 : IntKind} {enc' : Int × Int → List Value} {v : Value} {d : DataW H} {p : List MemPlace} (henc : EncOk enc' 2) (hen : ∀ x : Int × Int, enc' x = [.int k0 x.1, .int k1 x.2]) (ht : P.underlying t = some (.slice e)) (he : P.underlying e = some (.struct #[f0, f1]))
    (hc : P.cellsOf e = 2) (o0 : f0.offset = 0) (o1 : f1.offset = 1) (c0 : P.cellsOf f0.type = 1) (c1 : P.cellsOf f1.type = 1) (h0 : P.underlying f0.type = some (.int k0)) (h1 : P.underlying f1.type = some (.int k1))
    (hval : Value.okWide P W .any base t v) (h : DataW.Trod enc P W 0 (fun _ => true) true t v d p) :
    ∃ (a : Option Addr) (cap : Nat) (xs : List (Int × Int)), v = .slice a xs.length cap ∧ Nec W [] (Sl enc' 2 v xs) ∧ (∀ x ∈ xs, (Lit.int k0 x.1).wf = true ∧ (Lit.int k1 x.2).wf = true) ∧ xs.length ≤ maxLen := by
  refine arg_slice (good := fun x : Int × Int => (Lit.int k0 x.1).wf = true ∧ (Lit.int k1 x.2).wf = true) henc (by decide) ht hc (fun n cs y hy hl => ?_) hval h
  match cs, hl with
  | [a0, a1], _ =>
    obtain ⟨_, _, t0⟩ := trod_field (cs := [a0, a1]) (cs' := [a0]) he (i := 0) rfl (k := 1) c0 (by show List.take 1 (List.drop f0.offset [a0, a1]) = _; rw [o0]; rfl) hy
    obtain ⟨_, _, t1⟩ := trod_field (cs := [a0, a1]) (cs' := [a1]) he (i := 1) rfl (k := 1) c1 (by show List.take 1 (List.drop f1.offset [a0, a1]) = _; rw [o1]; rfl) hy
    obtain ⟨m0, e0, _, w0⟩ := DataW.trod_int h0 t0
    obtain ⟨m1, e1, _, w1⟩ := DataW.trod_int h1 t1
    simp only [List.cons.injEq, and_true] at e0 e1
    subst e0 e1
    exact ⟨(m0, m1), (hen (m0, m1)).symm, w0, w1⟩
end SX

namespace SX
open Go Go.ChangeShapes Go.WideShapes Go.ChangeAt Go.RowKit Go.Joins Go.Deep

variable {H : Type} {enc : TypeId × Value → H} {P : Program}
theorem leaf_lists {W : World} {base n : Nat} {t e e2 : TypeId} {k : IntKind} {v : Value} {y : DataW H × List MemPlace} {en : List Int × (Option Addr × Nat) → List Value} {inn : List Int × (Option Addr × Nat) → List (World → Prop)} (henc : EncOk en 1) (hen : ∀ p, en p = [.slice p.2.1 p.1.length p.2.2]) (hin : ∀ p, inn p = [Sl (eI k) 1 (.slice p.2.1 p.1.length p.2.2) p.1])
    (ht : P.underlying t = some (.slice e)) (he : P.underlying e = some (.slice e2)) (he2 : P.underlying e2 = some (.int k)) (hc1 : P.cellsOf e = 1) (hc2 : P.cellsOf e2 = 1) (hc : Cell.okWide P W .any base t v)
    (h : DataW.trod enc P W 0 (fun _ => true) true n t [v] = some y) :
    ∃ (a : Option Addr) (cap : Nat) (xs : List (List Int)) (gs : List (Option Addr × Nat)), v = .slice a xs.length cap ∧ Nec W [] (SlN en inn 1 (.slice a xs.length cap) xs gs) ∧ (∀ l ∈ xs, (∀ n ∈ l, (Lit.int k n).wf = true) ∧ l.length ≤ maxLen) ∧ xs.length ≤ maxLen := by
  have o1 : Value.okWide P W .any base t v := by unfold Value.okWide; rw [ht]; exact hc
  have vc : v.cells = #[v] := by
    obtain ⟨a, l, c, rfl⟩ := okWide_slice ht o1
    rfl
  have hopen : ∀ n cs y, DataW.trod enc P W 0 (fun _ => true) true n e cs = some y → cs.length = 1 → ∃ x : List Int × (Option Addr × Nat), cs = en x ∧ (Nec W [] (Sl (eI k) 1 (.slice x.2.1 x.1.length x.2.2) x.1) ∧ (∀ n ∈ x.1, (Lit.int k n).wf = true) ∧ x.1.length ≤ maxLen) := by
    intro n cs y hy hl
    match cs, hl with
    | [c0], _ =>
      rcases open_ints he he2 hc2 hy with ⟨hcs, _⟩ | ⟨a, len, cap, zs, hcs, _, hle, hmax, hlen, _, hcell, hwf⟩
      · simp only [List.cons.injEq, and_true] at hcs
        subst hcs
        exact ⟨([], (none, 0)), by rw [hen]; rfl, nec_cells ⟨⟨none, 0, rfl, Nat.le_refl _, by simp, by simp, fun j u hj => by simp at hj⟩, by simp⟩ (by simp), by simp, by simp⟩
      · simp only [List.cons.injEq, and_true] at hcs
        subst hcs
        simp only [if_true] at hlen
        have hL : (zs.take len).length = len := by rw [List.length_take]; omega
        have hfm : ∀ (l : List Int), l.flatMap (eI k) = l.map (fun x => Value.int k x) := by
          intro l
          induction l with
          | nil => rfl
          | cons x l ih => simp [eI, ih]
        have hspot : zs ≠ [] → a.spot = none := by
          intro hne
          obtain ⟨z, zs', rfl⟩ := List.exists_cons_of_ne_nil hne
          have := hcell 0 (by simp)
          unfold World.cell? at this
          have e0 : (a.add 0).spot = a.spot := by simp [Addr.add]
          cases hh : W.heap[(a.add 0).block]? with
          | none => rw [hh] at this; simp at this
          | some o =>
            rw [hh] at this
            cases o with
            | cells c _ _ =>
              simp only [e0] at this
              cases hs : a.spot with
              | none => rfl
              | some q => rw [hs] at this; simp at this
            | _ => simp at this
        have hj0 : ∀ j u, ((zs.take len).flatMap (eI k))[j]? = some u → W.cell? ⟨a.block, a.off + j, none⟩ = some u := by
          intro j u hj
          rw [hfm, List.getElem?_map] at hj
          cases hz : (zs.take len)[j]? with
          | none => rw [hz] at hj; simp at hj
          | some x =>
            rw [hz] at hj
            simp only [Option.map_some, Option.some.injEq] at hj
            subst hj
            have hj1 := (List.getElem?_eq_some_iff.1 hz).1
            have hj2 : j < zs.length := by rw [List.length_take] at hj1; omega
            have hne : zs ≠ [] := by rintro rfl; simp at hj2
            have := hcell j hj2
            have hx : zs.getD j 0 = x := by
              rw [List.getElem?_take_of_lt (by rw [List.length_take] at hj1; omega)] at hz
              simp [List.getD, hz]
            rw [hx, addr_add' _ _ (hspot hne)] at this
            exact this
        refine ⟨(zs.take len, (some a, cap)), by rw [hen, hL], ?_, fun n hn => hwf n (List.mem_of_mem_take hn), by show (zs.take len).length ≤ _; rw [hL]; omega⟩
        refine nec_cells ⟨⟨some a, cap, rfl, by show (zs.take len).length ≤ cap; rw [hL]; exact hle, hmax, fun ad e => ?_, fun j u hj => ⟨a, rfl, hj0 j u hj⟩⟩, by rw [hfm]; simp⟩ fun ad l c e hne => ?_
        · cases e
          by_cases hz : (zs.take len).flatMap (eI k) = []
          · exact .inl hz
          · exact .inr (hspot (by rintro rfl; simp at hz))
        · cases e
          have hpos := List.length_pos_iff.2 hne
          have := hj0 0 _ (List.getElem?_eq_getElem hpos)
          unfold World.cell? at this
          cases hh : W.heap[a.block]? with
          | none => simp only [hh] at this; simp at this
          | some o => exact (Array.getElem?_eq_some_iff.1 hh).1
  obtain ⟨a, cap, ps, hv, hs, hg, hm⟩ := arg_slice (good := fun x : List Int × (Option Addr × Nat) => Nec W [] (Sl (eI k) 1 (.slice x.2.1 x.1.length x.2.2) x.1) ∧ (∀ n ∈ x.1, (Lit.int k n).wf = true) ∧ x.1.length ≤ maxLen) henc (by decide) ht hc1 hopen o1 (d := y.1) (p := y.2) ⟨n, by rw [vc]; exact h⟩
  have hz : (ps.map (·.1)).zip (ps.map (·.2)) = ps := by
    have : ∀ ps : List (List Int × (Option Addr × Nat)), (ps.map (·.1)).zip (ps.map (·.2)) = ps := by
      intro ps
      induction ps with
      | nil => rfl
      | cons p ps ih => rw [List.map_cons, List.map_cons, List.zip_cons_cons, ih]
    exact this ps
  refine ⟨a, cap, ps.map (·.1), ps.map (·.2), by rw [List.length_map]; exact hv, fun w' hk => ⟨by simp, ?_, fun p hp φ hφ => ?_⟩, fun l hl => ?_, by rw [List.length_map]; exact hm⟩
  · rw [hz, List.length_map, ← hv]
    exact hs w' hk
  · rw [hz] at hp
    rw [hin] at hφ
    simp only [List.mem_singleton] at hφ
    subst hφ
    exact (hg p hp).1 w' hk
  · obtain ⟨p, hp, rfl⟩ := List.mem_map.1 hl
    exact (hg p hp).2
end SX

namespace SX
open Go Go.ChangeShapes Go.WideShapes Go.ChangeAt Go.RowKit Go.Joins Go.Deep

variable {H : Type} {enc : TypeId × Value → H} {P : Program}
theorem open_list {W : World} {n : Nat} {e e2 : TypeId} {k : IntKind} {c0 : Value} {y : DataW H × List MemPlace} (he : P.underlying e = some (.slice e2)) (he2 : P.underlying e2 = some (.int k)) (hc2 : P.cellsOf e2 = 1)
    (hy : DataW.trod enc P W 0 (fun _ => true) true n e [c0] = some y) :
    ∃ x : List Int × (Option Addr × Nat), c0 = .slice x.2.1 x.1.length x.2.2 ∧ Nec W [] (Sl (eI k) 1 (.slice x.2.1 x.1.length x.2.2) x.1) ∧ (∀ n ∈ x.1, (Lit.int k n).wf = true) ∧ x.1.length ≤ maxLen := by
  rcases open_ints he he2 hc2 hy with ⟨hcs, _⟩ | ⟨a, len, cap, zs, hcs, _, hle, hmax, hlen, _, hcell, hwf⟩
  · simp only [List.cons.injEq, and_true] at hcs
    subst hcs
    exact ⟨([], (none, 0)), rfl, nec_cells ⟨⟨none, 0, rfl, Nat.le_refl _, by simp, by simp, fun j u hj => by simp at hj⟩, by simp⟩ (by simp), by simp, by simp⟩
  · simp only [List.cons.injEq, and_true] at hcs
    subst hcs
    simp only [if_true] at hlen
    have hL : (zs.take len).length = len := by rw [List.length_take]; omega
    have hfm : ∀ (l : List Int), l.flatMap (eI k) = l.map (fun x => Value.int k x) := by
      intro l
      induction l with
      | nil => rfl
      | cons x l ih => simp [eI, ih]
    have hspot : zs ≠ [] → a.spot = none := by
      intro hne
      obtain ⟨z, zs', rfl⟩ := List.exists_cons_of_ne_nil hne
      have := hcell 0 (by simp)
      unfold World.cell? at this
      have e0 : (a.add 0).spot = a.spot := by simp [Addr.add]
      cases hh : W.heap[(a.add 0).block]? with
      | none => rw [hh] at this; simp at this
      | some o =>
        rw [hh] at this
        cases o with
        | cells c _ _ =>
          simp only [e0] at this
          cases hs : a.spot with
          | none => rfl
          | some q => rw [hs] at this; simp at this
        | _ => simp at this
    have hj0 : ∀ j u, ((zs.take len).flatMap (eI k))[j]? = some u → W.cell? ⟨a.block, a.off + j, none⟩ = some u := by
      intro j u hj
      rw [hfm, List.getElem?_map] at hj
      cases hz : (zs.take len)[j]? with
      | none => rw [hz] at hj; simp at hj
      | some x =>
        rw [hz] at hj
        simp only [Option.map_some, Option.some.injEq] at hj
        subst hj
        have hj1 := (List.getElem?_eq_some_iff.1 hz).1
        have hj2 : j < zs.length := by rw [List.length_take] at hj1; omega
        have hne : zs ≠ [] := by rintro rfl; simp at hj2
        have := hcell j hj2
        have hx : zs.getD j 0 = x := by
          rw [List.getElem?_take_of_lt (by rw [List.length_take] at hj1; omega)] at hz
          simp [List.getD, hz]
        rw [hx, addr_add' _ _ (hspot hne)] at this
        exact this
    refine ⟨(zs.take len, (some a, cap)), by rw [hL], ?_, fun n hn => hwf n (List.mem_of_mem_take hn), by show (zs.take len).length ≤ _; rw [hL]; omega⟩
    refine nec_cells ⟨⟨some a, cap, rfl, by show (zs.take len).length ≤ cap; rw [hL]; exact hle, hmax, fun ad e => ?_, fun j u hj => ⟨a, rfl, hj0 j u hj⟩⟩, by rw [hfm]; simp⟩ fun ad l c e hne => ?_
    · cases e
      by_cases hz : (zs.take len).flatMap (eI k) = []
      · exact .inl hz
      · exact .inr (hspot (by rintro rfl; simp at hz))
    · cases e
      have hpos := List.length_pos_iff.2 hne
      have := hj0 0 _ (List.getElem?_eq_getElem hpos)
      unfold World.cell? at this
      cases hh : W.heap[a.block]? with
      | none => simp only [hh] at this; simp at this
      | some o => exact (Array.getElem?_eq_some_iff.1 hh).1
theorem arg_islices {W : World} {base : Nat} {t e : TypeId} {f0 f1 : Field} {e2 : TypeId} {k0 k : IntKind} {v : Value} {d : DataW H} {p : List MemPlace} {en : (Int × List Int) × (Option Addr × Nat) → List Value} {inn : (Int × List Int) × (Option Addr × Nat) → List (World → Prop)} (henc : EncOk en 2)
    (hen : ∀ p, en p = [.int k0 p.1.1, .slice p.2.1 p.1.2.length p.2.2]) (hin : ∀ p, inn p = [Sl (eI k) 1 (.slice p.2.1 p.1.2.length p.2.2) p.1.2]) (ht : P.underlying t = some (.slice e)) (he : P.underlying e = some (.struct #[f0, f1]))
    (hc : P.cellsOf e = 2) (o0 : f0.offset = 0) (o1 : f1.offset = 1) (c0 : P.cellsOf f0.type = 1) (c1 : P.cellsOf f1.type = 1) (h0 : P.underlying f0.type = some (.int k0)) (h1 : P.underlying f1.type = some (.slice e2)) (h2 : P.underlying e2 = some (.int k)) (hc2 : P.cellsOf e2 = 1)
    (hval : Value.okWide P W .any base t v) (h : DataW.Trod enc P W 0 (fun _ => true) true t v d p) :
    ∃ (a : Option Addr) (cap : Nat) (xs : List (Int × List Int)) (gs : List (Option Addr × Nat)), v = .slice a xs.length cap ∧ Nec W [] (SlN en inn 2 (.slice a xs.length cap) xs gs) ∧ (∀ x ∈ xs, (Lit.int k0 x.1).wf = true ∧ (∀ n ∈ x.2, (Lit.int k n).wf = true) ∧ x.2.length ≤ maxLen) ∧ xs.length ≤ maxLen := by
  have hopen : ∀ n cs y, DataW.trod enc P W 0 (fun _ => true) true n e cs = some y → cs.length = 2 → ∃ x : (Int × List Int) × (Option Addr × Nat), cs = en x ∧ (Nec W [] (Sl (eI k) 1 (.slice x.2.1 x.1.2.length x.2.2) x.1.2) ∧ (Lit.int k0 x.1.1).wf = true ∧ (∀ n ∈ x.1.2, (Lit.int k n).wf = true) ∧ x.1.2.length ≤ maxLen) := by
    intro n cs y hy hl
    match cs, hl with
    | [a0, a1], _ =>
      obtain ⟨_, _, t0⟩ := trod_field (cs := [a0, a1]) (cs' := [a0]) he (i := 0) rfl (k := 1) c0 (by show List.take 1 (List.drop f0.offset [a0, a1]) = _; rw [o0]; rfl) hy
      obtain ⟨_, _, t1⟩ := trod_field (cs := [a0, a1]) (cs' := [a1]) he (i := 1) rfl (k := 1) c1 (by show List.take 1 (List.drop f1.offset [a0, a1]) = _; rw [o1]; rfl) hy
      obtain ⟨m0, e0, _, w0⟩ := DataW.trod_int h0 t0
      simp only [List.cons.injEq, and_true] at e0
      subst e0
      obtain ⟨x, rfl, hx1, hx2, hx3⟩ := open_list h1 h2 hc2 t1
      exact ⟨((m0, x.1), x.2), (hen ((m0, x.1), x.2)).symm, hx1, w0, hx2, hx3⟩
  obtain ⟨a, cap, ps, hv, hs, hg, hm⟩ := arg_slice (good := fun x : (Int × List Int) × (Option Addr × Nat) => Nec W [] (Sl (eI k) 1 (.slice x.2.1 x.1.2.length x.2.2) x.1.2) ∧ (Lit.int k0 x.1.1).wf = true ∧ (∀ n ∈ x.1.2, (Lit.int k n).wf = true) ∧ x.1.2.length ≤ maxLen) henc (by decide) ht hc hopen hval h
  have hz : (ps.map (·.1)).zip (ps.map (·.2)) = ps := by
    have : ∀ ps : List ((Int × List Int) × (Option Addr × Nat)), (ps.map (·.1)).zip (ps.map (·.2)) = ps := by
      intro ps
      induction ps with
      | nil => rfl
      | cons p ps ih => rw [List.map_cons, List.map_cons, List.zip_cons_cons, ih]
    exact this ps
  refine ⟨a, cap, ps.map (·.1), ps.map (·.2), by rw [List.length_map]; exact hv, fun w' hk => ⟨by simp, ?_, fun p hp φ hφ => ?_⟩, fun l hl => ?_, by rw [List.length_map]; exact hm⟩
  · rw [hz, List.length_map, ← hv]
    exact hs w' hk
  · rw [hz] at hp
    rw [hin] at hφ
    simp only [List.mem_singleton] at hφ
    subst hφ
    exact (hg p hp).1 w' hk
  · obtain ⟨p, hp, rfl⟩ := List.mem_map.1 hl
    exact (hg p hp).2
end SX

namespace SX
open Go

theorem wrap_i64 {n : Int} (h1 : -9223372036854775808 ≤ n) (h2 : n < 9223372036854775808) : IntKind.wrap .i64 n = n := by
  unfold IntKind.wrap
  simp only [IntKind.bits, IntKind.signed]
  simp only [show (2 ^ 64 : Int) = 18446744073709551616 from by decide, show (2 ^ (64 - 1) : Int) = 9223372036854775808 from by decide]
  split
  · rename_i h; simp at h; omega
  · rename_i h; simp at h; omega
theorem wrap_u64 {n : Int} (h1 : 0 ≤ n) (h2 : n < 18446744073709551616) : IntKind.wrap .u64 n = n := by
  unfold IntKind.wrap
  simp only [IntKind.bits, IntKind.signed]
  simp only [show (2 ^ 64 : Int) = 18446744073709551616 from by decide, Bool.false_and, Bool.false_eq_true, if_false]
  omega
theorem wrap_u8 {n : Int} (h1 : 0 ≤ n) (h2 : n < 256) : IntKind.wrap .u8 n = n := by
  unfold IntKind.wrap
  simp only [IntKind.bits, IntKind.signed]
  simp only [show (2 ^ 8 : Int) = 256 from by decide, Bool.false_and, Bool.false_eq_true, if_false]
  omega
theorem wrap_u64_mod (n : Int) : IntKind.wrap .u64 n = n % 18446744073709551616 := by
  unfold IntKind.wrap
  simp only [IntKind.bits, IntKind.signed]
  simp only [show (2 ^ 64 : Int) = 18446744073709551616 from by decide, Bool.false_and, Bool.false_eq_true, if_false]
theorem wrap_u8_mod (n : Int) : IntKind.wrap .u8 n = n % 256 := by
  unfold IntKind.wrap
  simp only [IntKind.bits, IntKind.signed]
  simp only [show (2 ^ 8 : Int) = 256 from by decide, Bool.false_and, Bool.false_eq_true, if_false]
theorem iadd_i64 {a b : Int} (h1 : -9223372036854775808 ≤ a + b) (h2 : a + b < 9223372036854775808) : iadd .i64 a b = a + b := wrap_i64 h1 h2
theorem isub_i64 {a b : Int} (h1 : -9223372036854775808 ≤ a - b) (h2 : a - b < 9223372036854775808) : isub .i64 a b = a - b := wrap_i64 h1 h2
theorem imul_i64 {a b : Int} (h1 : -9223372036854775808 ≤ a * b) (h2 : a * b < 9223372036854775808) : imul .i64 a b = a * b := wrap_i64 h1 h2
theorem idx_nat {α : Type} (xs : List α) (i : Nat) : idx xs (i : Int) = xs[i]? := by simp [idx]
theorem app_eq {α : Type} {lim : Nat} {xs ys : List α} (h : xs.length + ys.length ≤ lim) : app lim xs ys = some (xs ++ ys) := by simp [app, h]
theorem u64_of_wf {x : Int} (h : (Lit.int .u64 x).wf = true) : 0 ≤ x ∧ x < 18446744073709551616 := by
  simp [Lit.wf, IntKind.min, IntKind.max, IntKind.signed, IntKind.bits] at h
  exact ⟨by omega, by omega⟩
theorem i64_of_wf {x : Int} (h : (Lit.int .i64 x).wf = true) : -9223372036854775808 ≤ x ∧ x < 9223372036854775808 := by
  simp [Lit.wf, IntKind.min, IntKind.max, IntKind.signed, IntKind.bits] at h
  exact ⟨by omega, by omega⟩
theorem u8_of_wf {x : Int} (h : (Lit.int .u8 x).wf = true) : 0 ≤ x ∧ x < 256 := by
  simp [Lit.wf, IntKind.min, IntKind.max, IntKind.signed, IntKind.bits] at h
  exact ⟨by omega, by omega⟩
/-! ### Bits -/
theorem iand_mask {k : IntKind} {a : Int} {m : Nat} (ha : 0 ≤ a) (ha2 : a < 2 ^ k.bits) (hm : m ≤ k.bits) (hs : k.signed = false) : iand k a (2 ^ m - 1 : Nat) = a % 2 ^ m := by
  unfold iand
  obtain ⟨n, rfl⟩ := Int.eq_ofNat_of_zero_le ha
  have hn : n < 2 ^ k.bits := by exact_mod_cast ha2
  have h1 : (BitVec.ofInt k.bits (n : Int)) = BitVec.ofNat k.bits n := by simp
  have h2 : (BitVec.ofInt k.bits ((2 ^ m - 1 : Nat) : Int)) = BitVec.ofNat k.bits (2 ^ m - 1) := by simp
  rw [h1, h2, BitVec.toNat_and, BitVec.toNat_ofNat, BitVec.toNat_ofNat, Nat.mod_eq_of_lt hn]
  have h3 : 2 ^ m ≤ 2 ^ k.bits := Nat.pow_le_pow_right (by decide) hm
  have h0 : 0 < 2 ^ m := Nat.pow_pos (by decide)
  rw [Nat.mod_eq_of_lt (by omega), Nat.and_two_pow_sub_one_eq_mod]
  have h4 : n % 2 ^ m < 2 ^ k.bits := Nat.lt_of_lt_of_le (Nat.mod_lt _ h0) h3
  unfold IntKind.wrap
  simp only [hs, Bool.false_and, Bool.false_eq_true, if_false]
  rw [Int.emod_eq_of_lt (by omega) (by exact_mod_cast h4)]
  simp
theorem ior_add {k : IntKind} {a b : Int} {m : Nat} (ha : 0 ≤ a) (ham : a < 2 ^ m) (hb : 0 ≤ b) (hbm : b % 2 ^ m = 0) (hs : k.signed = false) (hab : a + b < 2 ^ k.bits) : ior k a b = a + b := by
  unfold ior
  obtain ⟨x, rfl⟩ := Int.eq_ofNat_of_zero_le ha
  obtain ⟨y, rfl⟩ := Int.eq_ofNat_of_zero_le hb
  have hx : x < 2 ^ m := by exact_mod_cast ham
  have hy : y % 2 ^ m = 0 := by exact_mod_cast hbm
  have hxy : x + y < 2 ^ k.bits := by exact_mod_cast hab
  have h1 : (BitVec.ofInt k.bits (x : Int)) = BitVec.ofNat k.bits x := by simp
  have h2 : (BitVec.ofInt k.bits (y : Int)) = BitVec.ofNat k.bits y := by simp
  rw [h1, h2, BitVec.toNat_or, BitVec.toNat_ofNat, BitVec.toNat_ofNat, Nat.mod_eq_of_lt (by omega), Nat.mod_eq_of_lt (by omega)]
  have h3 : x ||| y = x + y := by
    have hy2 : y = 2 ^ m * (y / 2 ^ m) := by
      have := Nat.div_add_mod y (2 ^ m); omega
    have h4 := Nat.two_pow_add_eq_or_of_lt hx (y / 2 ^ m)
    rw [← hy2] at h4
    rw [Nat.or_comm, ← h4, Nat.add_comm]
  rw [h3]
  unfold IntKind.wrap
  simp only [hs, Bool.false_and, Bool.false_eq_true, if_false]
  rw [Int.emod_eq_of_lt (by omega) (by exact_mod_cast hxy)]
  simp
theorem ishr_eq {k : IntKind} {a : Int} {m : Nat} (hm : m ≤ k.bits) : ishr k a (m : Int) = a / 2 ^ m := by
  unfold ishr
  have h : min ((m : Int).toNat) k.bits = m := by simp; omega
  rw [h, Int.fdiv_eq_ediv_of_nonneg _ (by exact_mod_cast Nat.zero_le _)]
theorem ishl_u64 {a : Int} {m : Nat} (hm : m ≤ 64) : ishl .u64 a (m : Int) = (a * 2 ^ m) % 18446744073709551616 := by
  unfold ishl
  have h : min ((m : Int).toNat) (IntKind.bits .u64) = m := by simp [IntKind.bits]; omega
  rw [h, wrap_u64_mod]
end SX

