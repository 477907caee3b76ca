/- A layer of rules for walking Go code: what a frame's slots hold, what blocks and rows of the heap hold; each rule speaks of a plain model's value: part 3. -/
import Derived.Test.YtmoikolponkmpaaGreatSx
import Derived.Lib.AppendZerosOnto
import Derived.Lib.Overlaps
import Derived.Shelf.SlSortCmp.NoneTotal
import Derived.Lib.SmallJoins
import Derived.Deep.Slices
namespace SX
open Go
section ins
variable {P : Program} {M0 : List Nat} {w0 w : World} {B : List BlkD} {R : List RowD} {F : List (World → Prop)} {agg : Bool} {z : Value} {size bytes : Nat} {t t2 e : TypeId} {α : Type} {enc : α → List Value} {xs us : List α}
theorem qmd {K k dl dc sl j g c : Nat} {ty : TypeId} {u : Value} (henc : EncOk enc size) (hK : K ≤ xs.length) (hc : K + k ≤ c) (ht : P.underlying t = some (.slice e)) (hT : TyF P e agg z size bytes)
    (hp : Hp M0 w0 w B R F) (hR : R[j]? = some (Ro enc e size (.slice (some ⟨g, 0, none⟩) xs.length c) xs)) (hul : us.length = k) (hfc : (Builtin.firstCells size k u).run P w = .ok (us.flatMap enc).toArray w) (hlo : Builtin.lenOf u = pure sl) (hmin : Nat.min sl dl = k) :
    ∃ w', (Builtin.copy_ #[t, t2] ty #[.slice (some ⟨g, K * size, none⟩) dl dc, u]).run P w = .ok (goInt k) w' ∧
      Hp M0 w0 w' B (Ro enc e size (.slice (some ⟨g, 0, none⟩) (xs.take K ++ us ++ xs.drop (K + k)).length c) (xs.take K ++ us ++ xs.drop (K + k)) :: R.eraseIdx j) F := by
  have hown := hp.row _ (List.mem_of_getElem? hR)
  rcases hown.2 with ⟨h5, _⟩ | ⟨g', cap, cur, h5, _, hgg, hnc, hcm, hcs, htake⟩
  · simp [Ro] at h5
  · have h5' : Value.slice (some ⟨g, 0, none⟩) xs.length c = .slice (some ⟨g', 0, none⟩) xs.length cap := h5
    simp only [Value.slice.injEq, Option.some.injEq, Addr.mk.injEq, and_true, true_and] at h5'
    obtain ⟨rfl, rfl⟩ := h5'
    have hgg' : w.heap[g]? = some (.cells cur e (0, 0)) := hgg
    have hcs' : cur.size = c * size := hcs
    have hnc' : xs.length ≤ c := hnc
    have htake' : cur.toList.take (xs.length * size) = xs.flatMap enc := htake
    have husl := qP henc us
    rw [hul] at husl
    have hxl := qP henc xs
    have hKs : K * size ≤ xs.length * size := Nat.mul_le_mul_right _ hK
    have hcc : K * size + k * size ≤ c * size := by rw [← Nat.add_mul]; exact Nat.mul_le_mul_right _ hc
    have hst := run_storeCells_at P g (K * size) e (us.flatMap enc) 0 cur w hgg' (by rw [Nat.add_zero, husl, hcs']; exact hcc) (fun v hv => List.all_eq_true.1 (henc.okAll us) v hv)
    simp only [Nat.add_zero] at hst
    have hsplit : cur.toList = xs.flatMap enc ++ cur.toList.drop (xs.length * size) := by rw [← htake', List.take_append_drop]
    generalize hTe : cur.toList.drop (xs.length * size) = T at hsplit
    have hnew : cur.toList.take (K * size) ++ us.flatMap enc ++ cur.toList.drop (K * size + (us.flatMap enc).length) = (xs.take K ++ us ++ xs.drop (K + k)).flatMap enc ++ T.drop ((K + k) * size - (xs.flatMap enc).length) := by
      rw [List.flatMap_append, List.flatMap_append, qcw henc, qdF henc, husl, ← Nat.add_mul, hsplit, List.take_append_of_le_length (by rw [hxl]; exact hKs), List.drop_append]
      simp only [List.append_assoc]
    refine ⟨w.setRow g (cur.toList.take (K * size) ++ us.flatMap enc ++ cur.toList.drop (K * size + (us.flatMap enc).length)).toArray, ?_, hp.swapRow hR ?_ (.inl ⟨rfl, ⟨rfl, rfl, rfl, by simp, fun q _ hq => setRow_other w g q _ (fun e => hq (by simp [Ro, Value.ownBlock, e])), Nat.le_refl _⟩⟩)⟩
    · simp [Builtin.copy_, run_underlying ht, hT.run_size, hlo, hmin, hfc, hst]
    · have hsz : (cur.toList.take (K * size) ++ us.flatMap enc ++ cur.toList.drop (K * size + (us.flatMap enc).length)).length = c * size := by
        simp only [List.length_append, List.length_take, List.length_drop, Array.length_toList, husl, hcs']
        omega
      refine ⟨qP henc _, .inr ⟨g, c, _, rfl, Nat.zero_le _, setRow_heap w g cur _ e _ hgg', ?_, hcm, ?_, ?_⟩⟩
      · show (xs.take K ++ us ++ xs.drop (K + k)).length ≤ c
        simp only [List.length_append, List.length_take, List.length_drop, hul]
        omega
      · show _ = c * size
        rw [List.size_toArray, hsz]
      · show List.take ((xs.take K ++ us ++ xs.drop (K + k)).length * size) _ = _
        rw [hnew]
        exact List.take_left' (qP henc _)
theorem qic {j g c K0 k sl sc e2 : Nat} (hp : Hp M0 w0 w B R F) (henc : EncOk enc size) (hR : R[j]? = some (Ro enc e2 size (.slice (some ⟨g, 0, none⟩) xs.length c) xs)) (hk : K0 + k ≤ xs.length) :
    (Builtin.firstCells size k (.slice (some ⟨g, K0 * size, none⟩) sl sc)).run P w = .ok (((xs.drop K0).take k).flatMap enc).toArray w := by
  have hcells : Cells (.slice (some ⟨g, 0, none⟩) xs.length c) xs.length size (xs.flatMap enc) w := zj (hp.row _ (List.mem_of_getElem? hR))
  obtain ⟨a', cap, hv, _, _, _, h5⟩ := hcells.val
  simp only [Value.slice.injEq, true_and] at hv
  obtain ⟨rfl, rfl⟩ := hv
  refine run_firstCells_some w size k _ sl sc _ ?_ fun q v hq => ?_
  · rw [qP henc, List.length_take, List.length_drop, Nat.min_eq_left (by omega)]
  · rw [qcw henc, qdF henc] at hq
    have hlt : q < k * size := by have := (List.getElem?_eq_some_iff.1 hq).1; simp at this; omega
    rw [List.getElem?_take_of_lt hlt, List.getElem?_drop] at hq
    obtain ⟨ad, h6, h7⟩ := h5 _ v hq
    simp only [Option.some.injEq] at h6
    subst h6
    rw [yE]
    simpa using h7
end ins
theorem qqC {g h n c size : Nat} (hc : h < c) : qv (some ⟨g, 0, none⟩) h n c size = .slice (some ⟨g, h * size, none⟩) n (c - h) := by
  cases h with
  | zero => simp [qv]
  | succ k =>
    unfold qv
    simp only
    rw [if_neg (by omega)]
    simp [Addr.add_lit]
section rules
variable {P : Program} {ro : Option Nat} {n : Nat} {D : List Deferred} {M0 : List Nat} {w0 : World} {Q : Exit → Act → World → Prop} {ρ : Type}
variable {ops : Array Oper} {rest : List Oper} {l : Env} {B : List BlkD} {R : List RowD} {F : List (World → Prop)} {m : Option ρ} {r : ρ}
variable {d : Nat} {t t' t2 e : TypeId} {pos : String} {af : Array Edge} {gd : Option (Nat × Bool)} {agg : Bool} {z : Value} {size bytes : Nat}
variable {α : Type} {enc : α → List Value} {xs hs ys : List α}
theorem qfC {x : Operand} {lo hi : Option Operand} {L H nn c : Nat} {ao : Option Addr} {V : Value} (ht : P.underlying t' = some (.slice e)) (hT : TyF P e agg z size bytes)
    (hx : ev l x = some (.slice ao nn c)) (hlo : evOpt l lo 0 = some (L : Int)) (hhi : evOpt l hi (nn : Int) = some (H : Int)) (b2' : L ≤ H) (hn1 : H ≤ c) (hv : cutv ao c size L H = V) :
    Yv P l B F ⟨some d, .slice t' x lo hi none, t, pos, af, gd⟩ V := by
  intro n D a w hf _
  subst hv
  have h1 := hf.ev hx
  have e1 := qcD hf hlo
  have e2 := qcD hf hhi
  have hb0 : (0 : Int) ≤ (H : Int) := by omega
  have hb2 : (L : Int) ≤ (H : Int) := by omega
  have hb3 : (0 : Int) ≤ (L : Int) := by omega
  generalize hε : a.eval = ε at h1 e1 e2 ⊢
  rcases e1 with ⟨k1, e1⟩ | ⟨rfl, e1⟩ <;> rcases e2 with ⟨k2, e2⟩ | ⟨rfl, e2⟩
  · simp [execOp, h1, e1, e2, Instr.sliceAt, Instr.slice, Instr.sliceBounds, Instr.sliceBound, asIntOf, run_underlying ht, hT.run_size, hb0, hb3, hn1, b2', cutv]
  · have : H = nn := by omega
    subst this
    simp [execOp, h1, e1, Instr.sliceAt, Instr.slice, Instr.sliceBounds, Instr.sliceBound, asIntOf, run_underlying ht, hT.run_size, hb3, b2', cutv]
  · have : L = 0 := by omega
    subst this
    simp [execOp, h1, e2, Instr.sliceAt, Instr.slice, Instr.sliceBounds, Instr.sliceBound, asIntOf, run_underlying ht, hT.run_size, hb0, hn1, cutv]
  · have : H = nn := by omega
    subst this
    have : L = 0 := by omega
    subst this
    simp [execOp, h1, Instr.sliceAt, Instr.slice, Instr.sliceBounds, run_underlying ht, hT.run_size, cutv]
theorem qbA {g o c L H : Nat} (h : L < c) : cutv (some ⟨g, o, none⟩) c size (L : Int) (H : Int) = .slice (some ⟨g, o + L * size, none⟩) (H - L) (c - L) := by
  unfold cutv
  rw [Int.toNat_natCast, Int.toNat_natCast, if_neg (by omega)]
  simp [yE]
theorem qbD {x : Operand} {lo hi : Option Operand} {L H nn c : Nat} {ao : Option Addr} {V : Value} (hw : wants ops l ⟨some d, .slice t' x lo hi none, t, pos, af, gd⟩ = some true) (ht : P.underlying t' = some (.slice e)) (hT : TyF P e agg z size bytes)
    (hx : ev l x = some (.slice ao nn c)) (hlo : evOpt l lo 0 = some (L : Int)) (hhi : evOpt l hi (nn : Int) = some (H : Int)) (b2' : L ≤ H) (hn1 : H ≤ c) (hv : cutv ao c size L H = V) (hd : Nat.blt d n = true)
    (h : SXO P ro n D M0 w0 Q ops rest ((d, V) :: l) B R F m r) : SXO P ro n D M0 w0 Q ops (⟨some d, .slice t' x lo hi none, t, pos, af, gd⟩ :: rest) l B R F m r :=
  q8 V hw rfl hd (fun a w hf _ => qfC (P := P) (B := []) (F := []) ht hT hx hlo hhi b2' hn1 hv n D a w hf ⟨by simp, by simp⟩) h
theorem qol {x : Operand} {s e' : TypeId} {ao : Option Addr} {k c : Nat} (hw : wants ops l ⟨some d, .call ⟨.builtin .cap, #[x], #[s]⟩, t, pos, af, gd⟩ = some true) (ht : P.underlying s = some (.slice e')) (hx : ev l x = some (.slice ao k c)) (hd : Nat.blt d n = true)
    (h : SXO P ro n D M0 w0 Q ops rest ((d, .int .i64 (c : Int)) :: l) B R F m r) : SXO P ro n D M0 w0 Q ops (⟨some d, .call ⟨.builtin .cap, #[x], #[s]⟩, t, pos, af, gd⟩ :: rest) l B R F m r :=
  q8 _ hw rfl hd (fun a w hf _ => by
    have h1 := hf.ev hx
    generalize a.eval = ε at h1 ⊢
    simp [execOp, h1, resolve, invoke, builtin, Builtin.cap_, run_underlying ht, goInt]) h
theorem qeA {x s : Operand} {K K0 k g c dl dc g2 sl sc j j2 c2 e2 : Nat} (henc : EncOk enc size) (hw : wants ops l ⟨some d, .call ⟨.builtin .copy, #[x, s], #[t', t2]⟩, t, pos, af, gd⟩ = some true)
    (ht : P.underlying t' = some (.slice e)) (hT : TyF P e agg z size bytes) (hx : ev l x = some (.slice (some ⟨g, K * size, none⟩) dl dc)) (hs : ev l s = some (.slice (some ⟨g2, K0 * size, none⟩) sl sc))
    (hR : R[j]? = some (Ro enc e size (.slice (some ⟨g, 0, none⟩) xs.length c) xs)) (hR2 : R[j2]? = some (Ro enc e2 size (.slice (some ⟨g2, 0, none⟩) ys.length c2) ys)) (hd : Nat.blt d n = true)
    (hK : K ≤ xs.length) (hc : K + k ≤ c) (hk : K0 + k ≤ ys.length) (hmin : min sl dl = k)
    (h : ∀ zs, xs.take K ++ (ys.drop K0).take k ++ xs.drop (K + k) = zs → SXO P ro n D M0 w0 Q ops rest ((d, .int .i64 (k : Int)) :: l) B (Ro enc e size (.slice (some ⟨g, 0, none⟩) zs.length c) zs :: R.eraseIdx j) F m r) :
    SXO P ro n D M0 w0 Q ops (⟨some d, .call ⟨.builtin .copy, #[x, s], #[t', t2]⟩, t, pos, af, gd⟩ :: rest) l B R F m r := by
  refine kw hw fun hm a w hf hp => ?_
  obtain ⟨w', hrun, hp'⟩ := qmd (k := k) (dl := dl) (dc := dc) (sl := sl) (ty := t) (t2 := t2) (u := .slice (some ⟨g2, K0 * size, none⟩) sl sc) (us := (ys.drop K0).take k) henc hK hc ht hT hp hR (by rw [List.length_take, List.length_drop]; omega) (qic hp henc hR2 hk) rfl hmin
  have e1 := hf.ev hx
  have e2 := hf.ev hs
  refine ⟨_, w', ?_, h _ rfl hm _ _ (hf.put hd _) hp'⟩
  generalize a.eval = ε at e1 e2 ⊢
  simp [execOp, resolve, invoke, builtin, e1, e2, hrun, goInt]
theorem qmD {x y : Operand} {kq kn : IntKind} {k sl sc K0 g j c e2 : Nat} {zy : α} (henc : EncOk enc size) (hs0 : 0 < size) (hw : wants ops l ⟨some d, .call ⟨.builtin .append, #[x, y], #[t', t2]⟩, t, pos, af, gd⟩ = some true)
    (ht : P.underlying t' = some (.slice e)) (ht2 : P.underlying t2 = some (.int kn)) (hT : TyF P e agg z size bytes) (hz : z.cells.toList = enc zy) (hx : ev l x = some (.slice (some ⟨g, K0 * size, none⟩) sl sc)) (hy : ev l y = some (.int kq (k : Int))) (hd : Nat.blt d n = true)
    (hR : R[j]? = some (Ro enc e2 size (.slice (some ⟨g, 0, none⟩) xs.length c) xs)) (hk0 : K0 + sl ≤ xs.length) (h0 : 0 < k) (hg : sc < sl + k) (hm1 : sl + k ≤ 1000000) (hb : bytes ≤ 64)
    (h : ∀ g' c', sl + k ≤ c' → SXO P ro n D M0 w0 Q ops rest ((d, .slice (some ⟨g', 0, none⟩) (sl + k) c') :: l) B (Ro enc e size (.slice (some ⟨g', 0, none⟩) ((xs.drop K0).take sl ++ List.replicate k zy).length c') ((xs.drop K0).take sl ++ List.replicate k zy) :: R) F m r) :
    SXO P ro n D M0 w0 Q ops (⟨some d, .call ⟨.builtin .append, #[x, y], #[t', t2]⟩, t, pos, af, gd⟩ :: rest) l B R F m r := by
  refine kw hw fun hm a w hf hp => ?_
  obtain ⟨i, hi, hz', hsz, hby⟩ := hT.inf
  subst hsz; subst hby
  have hfc := qic (P := P) (k := sl) (sl := sl) (sc := sc) (hp.step (w' := w.drew) (Keeps.of_heap rfl rfl rfl rfl)) henc hR hk0
  have hbb : (sl + k) * i.bytes ≤ 140737488355328 := Nat.le_trans (Nat.mul_le_mul hm1 hb) (by decide)
  have h48 : Builtin.nextslicecap (sl + k) sc * i.bytes ≤ 281474976710656 := by
    have := qae (need := sl + k) (cap := sc) (bytes := i.bytes) hg hbb
    simpa using this
  have hrun := Go.Lib.run_append_grow_zeros (P := P) w t' t2 t e i z kq kn ht ht2 hi hz' (some ⟨g, K0 * i.size, none⟩) sl sc _ hfc k h0 hs0 hg (by omega) (Nat.le_trans (Nat.mul_le_mul (show k ≤ 1000000 by omega) hb) (by decide)) h48
  have hge := grownCap_ge w (sl + k) sc e
  have hcm' : grownCap w (sl + k) sc e ≤ maxLen := grownCap_le_maxLen w (sl + k) sc e (by simp only [maxLen]; omega)
  have hlen : ((xs.drop K0).take sl ++ List.replicate k zy).length = sl + k := by
    rw [List.length_append, List.length_take, List.length_drop, List.length_replicate]; omega
  have hzc : (Builtin.zeroCells z.cells k).toList = (List.replicate k zy).flatMap enc := by
    rw [qfk hz.symm k]
    have := qgU (zc := z.cells.toList) (size := i.size) (by rw [hz, henc.len]) (by omega) (ca := z.cells) rfl k
    rw [← this]
    have hzl : z.cells.size = i.size := by
      have := henc.len zy
      rw [← hz] at this
      simpa using this
    unfold Builtin.zeroCells madeCells
    rw [hzl]
  have hzl : z.cells.size = i.size := by
    have := henc.len zy
    rw [← hz] at this
    simpa using this
  have e1 := hf.ev hx
  have e2' := hf.ev hy
  have key : Hp M0 w0 (w.drew.alloc (.cells ((((xs.drop K0).take sl).flatMap enc).toArray ++ Builtin.zeroCells z.cells k ++ Builtin.zeroCells z.cells (grownCap w (sl + k) sc e - (sl + k))) e)) B
      (Ro enc e i.size (.slice (some ⟨w.heap.size, 0, none⟩) ((xs.drop K0).take sl ++ List.replicate k zy).length (grownCap w (sl + k) sc e)) ((xs.drop K0).take sl ++ List.replicate k zy) :: R) F := by
    refine hp.addRow ⟨rfl, rfl, rfl, by simp, fun k hk _ => Go.RowKit.Below.heap_alloc w.drew _ k hk, Nat.le_succ _⟩ ?_ ?_
    · refine ⟨qP henc _, .inr ⟨w.heap.size, _, _, rfl, Nat.zero_le _, heap_alloc_new w.drew _, ?_, hcm', ?_, ?_⟩⟩
      · show ((xs.drop K0).take sl ++ List.replicate k zy).length ≤ _
        rw [hlen]; exact hge
      · show _ = grownCap w (sl + k) sc e * i.size
        have hl1 : (((xs.drop K0).take sl).flatMap enc).length = sl * i.size := by rw [qP henc, List.length_take, List.length_drop, Nat.min_eq_left (by omega)]
        simp only [Array.size_append, List.size_toArray, size_zeroCells, hzl, hl1, ← Nat.add_mul]
        congr 1
        omega
      · show List.take (((xs.drop K0).take sl ++ List.replicate k zy).length * i.size) _ = ((xs.drop K0).take sl ++ List.replicate k zy).flatMap enc
        rw [Array.toList_append, Array.toList_append, hzc, List.flatMap_append]
        exact List.take_left' (by rw [← List.flatMap_append, qP henc])
    · intro g' hg'
      have : w.heap.size = g' := by simpa [Ro, Value.ownBlock] using hg'
      omega
  refine ⟨_, _, ?_, h w.heap.size (grownCap w (sl + k) sc e) hge hm _ _ (hf.put hd _) key⟩
  generalize a.eval = ε at e1 e2' ⊢
  simp [execOp, resolve, invoke, builtin, e1, e2', hrun]
theorem qqD {w : World} {a : Option Addr} {c : Nat} (ho : (Ro enc e size (.slice a (hs ++ xs).length c) (hs ++ xs)).own w) : hs.length + xs.length ≤ c ∧ ∃ p, qv a hs.length xs.length c size = .slice p xs.length (c - hs.length) ∧
    (0 < xs.length → ∃ g, a = some ⟨g, 0, none⟩ ∧ p = some ⟨g, hs.length * size, none⟩) := by
  have hcap : hs.length + xs.length ≤ c := by
    rcases ho.2 with ⟨h2, h3⟩ | ⟨g, cap, cur, hv, _, _, h4, _⟩
    · have h3' : (hs ++ xs).length = 0 := h3
      rw [List.length_append] at h3'
      omega
    · have hv' : Value.slice a (hs ++ xs).length c = .slice (some ⟨g, 0, none⟩) (hs ++ xs).length cap := hv
      simp only [Value.slice.injEq, true_and] at hv'
      have h4' : (hs ++ xs).length ≤ cap := h4
      rw [List.length_append] at h4'
      omega
  refine ⟨hcap, ?_⟩
  cases hh : hs.length with
  | zero =>
    refine ⟨a, by simp [qv], fun hn => ?_⟩
    obtain ⟨g, rfl, _⟩ := qft ho (by rw [List.length_append]; omega)
    exact ⟨g, rfl, by simp⟩
  | succ k =>
    refine ⟨_, rfl, fun hn => ?_⟩
    obtain ⟨g, rfl, _⟩ := qft ho (by rw [List.length_append]; omega)
    refine ⟨g, rfl, ?_⟩
    rw [if_neg (by omega)]
    simp [Addr.add_lit]
theorem qoj {x : Code} {a : Option Addr} {c : Nat} (j : Nat) (hR : R[j]? = some (Ro enc e size (.slice a (hs ++ xs).length c) (hs ++ xs)))
    (h : hs.length + xs.length ≤ c → ∀ p, qv a hs.length xs.length c size = .slice p xs.length (c - hs.length) → (0 < xs.length → ∃ g, a = some ⟨g, 0, none⟩ ∧ p = some ⟨g, hs.length * size, none⟩) → SXC P ro n D M0 w0 Q x l B R F m r) : SXC P ro n D M0 w0 Q x l B R F m r := by
  intro hm ac w hf hp
  obtain ⟨h1, p, h2, h3⟩ := qqD (hp.row _ (List.mem_of_getElem? hR))
  exact h h1 p h2 h3 hm ac w hf hp
theorem qkA {e2 : TypeId} {w : World} {ty : TypeId} {a b : Value} (hT : TyF P e agg z size bytes) (ht : P.underlying t = some (.slice e)) (ht2 : P.underlying t2 = some (.slice e2)) : (Builtin.append_ #[t, t2] ty #[a, b]).run P w = (Builtin.append_ #[t, t] ty #[a, b]).run P w := by
  cases a <;> simp [Builtin.append_, run_underlying ht, run_underlying ht2, hT.run_size]
theorem qmC {s x : Operand} {u : Value} {a : Option Addr} {c e2 e3 : Nat} (i j : Nat) (henc : EncOk enc size)
    (hw : wants ops l ⟨some d, .call ⟨.builtin .append, #[s, x], #[t', t2]⟩, t, pos, af, gd⟩ = some true) (ht : P.underlying t' = some (.slice e)) (ht2 : P.underlying t2 = some (.slice e2)) (hT : TyF P e agg z size bytes) (hzs : z.cells.size = size) (hd : Nat.blt d n = true)
    (hs1 : ev l s = some (qv a hs.length xs.length c size)) (hx : ev l x = some u) (hR : R[i]? = some (Ro enc e size (.slice a (hs ++ xs).length c) (hs ++ xs))) (hu : R[j]? = some (Ro enc e3 size u ys))
    (hlim : xs.length + ys.length ≤ 1000000) (hlb : bytes ≤ 64)
    (h : ∀ (a : Option Addr) (c : Nat) (h' : List α), SXO P ro n D M0 w0 Q ops rest ((d, qv a h'.length (xs ++ ys).length c size) :: l) B (Ro enc e size (.slice a (h' ++ (xs ++ ys)).length c) (h' ++ (xs ++ ys)) :: R.eraseIdx i) F m r) :
    SXO P ro n D M0 w0 Q ops (⟨some d, .call ⟨.builtin .append, #[s, x], #[t', t2]⟩, t, pos, af, gd⟩ :: rest) l B R F m r := by
  refine kw hw fun hm ac w hf hp => ?_
  have h1 := hf.ev hs1
  have h2 := hf.ev hx
  have hsrc : Cells u ys.length size (ys.flatMap enc) w := zj (hp.row _ (List.mem_of_getElem? hu))
  have hown : w.ownsRow 0 e size (.slice a (hs.length + xs.length) c) (hs.length + xs.length) (hs.flatMap enc ++ xs.flatMap enc) := by
    have h9 : w.ownsRow 0 e size (.slice a (hs ++ xs).length c) (hs ++ xs).length ((hs ++ xs).flatMap enc) := hp.row _ (List.mem_of_getElem? hR)
    rw [List.length_append, List.flatMap_append] at h9
    exact h9
  obtain ⟨a', c', v', w', hr, hcase⟩ := qkc (P := P) (ty := t) w ht hT hzs (qP henc hs) (qP henc xs) hown hsrc (henc.okAll ys)
    (by show xs.length + ys.length ≤ maxLen; simp only [maxLen]; omega) (by show (xs.length + ys.length) * bytes ≤ _; exact Nat.le_trans (Nat.mul_le_mul hlim hlb) (by decide))
  rw [← qkA hT ht ht2] at hr
  rcases hcase with ⟨rfl, ho, hk⟩ | ⟨rfl, ho, hk⟩
  · have hn1 : (xs ++ ys).length = xs.length + ys.length := List.length_append
    have hn2 : (hs ++ (xs ++ ys)).length = hs.length + (xs.length + ys.length) := by simp
    refine ⟨qv a' hs.length (xs ++ ys).length c' size, w', by rw [hn1]; generalize ac.eval = ε at h1 h2 ⊢; simp [execOp, resolve, invoke, builtin, h1, h2, hr], h a' c' hs hm _ _ (hf.put hd _) (hp.swapRow hR ?_ ?_)⟩
    · show w'.ownsRow 0 e size (.slice a' (hs ++ (xs ++ ys)).length c') (hs ++ (xs ++ ys)).length ((hs ++ (xs ++ ys)).flatMap enc)
      rw [hn2, List.flatMap_append, List.flatMap_append]
      exact ho
    · have e1 : (Value.slice a (hs ++ xs).length c).ownBlock = (Value.slice a (hs.length + xs.length) c).ownBlock := by rw [List.length_append]
      have e2 : (Value.slice a' (hs ++ (xs ++ ys)).length c').ownBlock = (Value.slice a' (hs.length + (xs.length + ys.length)) c').ownBlock := by rw [hn2]
      simp only [Ro]
      rw [e1, e2]
      exact hk
  · have hn1 : (xs ++ ys).length = xs.length + ys.length := List.length_append
    refine ⟨.slice a' (xs ++ ys).length c', w', by rw [hn1]; generalize ac.eval = ε at h1 h2 ⊢; simp [execOp, resolve, invoke, builtin, h1, h2, hr], h a' c' [] hm _ _ (hf.put hd _) (hp.swapRow hR ?_ (.inr ⟨hk.1, ?_⟩))⟩
    · show w'.ownsRow 0 e size (.slice a' ([] ++ (xs ++ ys)).length c') ([] ++ (xs ++ ys)).length (([] ++ (xs ++ ys)).flatMap enc)
      rw [List.nil_append, hn1, List.flatMap_append]
      exact ho
    · intro g hg
      refine hk.2 g ?_
      rw [← hn1]; exact hg
theorem qnS {w : World} {i j g g' : Nat} {rd rd' : RowD} (hp : Hp M0 w0 w B R F) (hi : R[i]? = some rd) (hj : R[j]? = some rd') (hij : j ≠ i) (hg : rd.v.ownBlock = some g) (hg' : rd'.v.ownBlock = some g') : g ≠ g' := by
  have hp' := (hp.perm (List.Perm.refl _) (jv hi)).nodup
  have hm : rd' ∈ R.eraseIdx i := List.mem_eraseIdx_iff_getElem?.2 ⟨j, hij, hj⟩
  rintro rfl
  exact qeV hp' g (RowD.blocks_v hg) (List.mem_append.2 (.inr (List.mem_flatMap.2 ⟨rd', hm, RowD.blocks_v hg'⟩)))
theorem qid {w : World} {v : Value} {n' g : Nat} {cs : List Value} (h : w.ownsRow 0 e size v n' cs) (hg : v.ownBlock = some g) : ∃ c n'' k, v = .slice (some ⟨g, 0, none⟩) n'' c ∧ w.shape? g = some (e, c * size) ∧ w.frozen? ⟨g, 0, none⟩ = false ∧ w.frozen? ⟨g, k, none⟩ = false ∧ k = c * size := by
  rcases h.2 with ⟨rfl, _⟩ | ⟨g', cap, cur, rfl, _, hgg, hnc, hcm, hcs, htake⟩
  · simp [Value.ownBlock] at hg
  · have : g' = g := by simpa [Value.ownBlock] using hg
    subst this
    refine ⟨cap, _, cap * size, rfl, ?_, ?_, ?_, rfl⟩
    · simp [World.shape?, hgg, hcs]
    · simp [World.frozen?, hgg]
    · simp [World.frozen?, hgg]
theorem qmL {f : FuncId} {x y : Operand} {tys : Array TypeId} {tR : TypeId} {g1 g2 o2 la ca lb cb i j e1 e2 c1 c2 : Nat}
    (hcf : ∀ (args : Array Value) (w : World), (callFunc f args).run P w = ((Extern.SlicesOverlaps.overlaps #[t', t'] #[tR] args).run P w).andThen fun v w' => .ok (.value v) w')
    (hw : wants ops l ⟨some d, .call ⟨.value (.func f), #[x, y], tys⟩, t, pos, af, gd⟩ = some true) (hx : ev l x = some (.slice (some ⟨g1, 0, none⟩) la ca)) (hy : ev l y = some (.slice (some ⟨g2, o2, none⟩) lb cb))
    (ht : P.underlying t' = some (.slice e)) (hT : TyF P e agg z size bytes) (hR1 : R[i]? = some (Ro enc e1 size (.slice (some ⟨g1, 0, none⟩) ys.length c1) ys)) (hR2 : R[j]? = some (Ro enc e2 size (.slice (some ⟨g2, 0, none⟩) xs.length c2) xs))
    (hij : j ≠ i) (hc2 : c2 * size ≠ 0) (hd : Nat.blt d n = true)
    (h : SXO P ro n D M0 w0 Q ops rest ((d, .bool false) :: l) B R F m r) :
    SXO P ro n D M0 w0 Q ops (⟨some d, .call ⟨.value (.func f), #[x, y], tys⟩, t, pos, af, gd⟩ :: rest) l B R F m r := by
  refine kw hw fun hm a w hf hp => ?_
  have h1 := hf.ev hx
  have h2 := hf.ev hy
  have hne := qnS hp hR1 hR2 hij (g := g1) (g' := g2) rfl rfl
  obtain ⟨c, n1, k1, hv1, hsa, hfa, hfe, hk1⟩ := qid (g := g1) (hp.row _ (List.mem_of_getElem? hR1)) rfl
  obtain ⟨c', n2, k2, hv2, hsb, _, _, _⟩ := qid (g := g2) (hp.row _ (List.mem_of_getElem? hR2)) rfl
  have hv2' : Value.slice (some ⟨g2, 0, none⟩) xs.length c2 = .slice (some ⟨g2, 0, none⟩) n2 c' := hv2
  simp only [Value.slice.injEq, true_and] at hv2'
  obtain ⟨_, rfl⟩ := hv2'
  subst hk1
  have hrun := Go.Lib.run_overlaps_apart (P := P) w t' tR e ht size hT.run_size ⟨g1, 0, none⟩ ⟨g2, o2, none⟩ la ca lb cb hne _ _ _ _ hsa hsb hc2 hfa hfe
  have hcr := hcf #[.slice (some ⟨g1, 0, none⟩) la ca, .slice (some ⟨g2, o2, none⟩) lb cb] w
  rw [hrun] at hcr
  have h0 : a.eval (.func f) = .func (.func f) #[] #[] := rfl
  refine ⟨.bool false, w, ?_, h hm _ _ (hf.put hd _) hp⟩
  generalize a.eval = ε at h0 h1 h2 ⊢
  simp [execOp, resolve, h0, h1, h2, Deferred.ofValue, invoke, hcr, Result.andThen]
def HN {γ : Type} (inn : α × γ → List (World → Prop)) (x : List α) (zs : List (α × γ)) (w : World) : Prop := zs.map (·.1) = x ∧ ∀ p ∈ zs, ∀ φ ∈ inn p, φ w
def insK {β : Type} (k : Int) (l : List β) (y : β) : List β := l.take k.toNat ++ y :: l.drop k.toNat
section hn
variable {γ : Type} {inn : α × γ → List (World → Prop)} {x : List α} {zs : List (α × γ)}
theorem qnt {w : World} (h : HN inn x zs w) : x.length = zs.length := by rw [← h.1, List.length_map]
theorem qqo {w : World} {k : Int} {q : α × γ} (h : HN inn x zs w) (hq : ∀ φ ∈ inn q, φ w) : HN inn (insK k x q.1) (insK k zs q) w := by
  refine ⟨?_, fun p hp => ?_⟩
  · unfold insK
    rw [List.map_append, List.map_cons, List.map_take, List.map_drop, h.1]
  · rcases List.mem_append.1 hp with hp | hp
    · exact h.2 p (List.mem_of_mem_take hp)
    · rcases List.mem_cons.1 hp with rfl | hp
      · exact hq
      · exact h.2 p (List.mem_of_mem_drop hp)
theorem Hp.addF {w : World} {φ : World → Prop} (h : Hp M0 w0 w B R F) (hφ : Nec w (muts B R) φ) : Hp M0 w0 w B R (φ :: F) := by
  refine ⟨h.keep, h.blk, h.rows, h.nodup, h.fresh, fun ψ hψ => ?_⟩
  rcases List.mem_cons.1 hψ with rfl | hψ
  · exact hφ
  · exact h.per ψ hψ
theorem qmJ (α γ : Type) (inn : α × γ → List (World → Prop)) (h : SXO P ro n D M0 w0 Q ops rest l B R (HN inn ([] : List α) ([] : List (α × γ)) :: F) m r) : SXO P ro n D M0 w0 Q ops rest l B R F m r :=
  fun hm a w hf hp => h hm a w hf (hp.addF fun _ _ => ⟨rfl, by simp⟩)
theorem qif {k : Int} {q : α × γ} {ψ : World → Prop} (i j : Nat) (hF : F[i]? = some (HN inn x zs)) (hin : inn q = [ψ]) (hj : F[j]? = some ψ) (h : SXO P ro n D M0 w0 Q ops rest l B R (HN inn (insK k x q.1) (insK k zs q) :: F) m r) : SXO P ro n D M0 w0 Q ops rest l B R F m r :=
  fun hm a w hf hp => h hm a w hf (hp.addF fun w' hk => qqo (hp.per _ (List.mem_of_getElem? hF) w' hk) (by
    rw [hin]; intro φ hφ
    rw [List.mem_singleton] at hφ
    subst hφ
    exact hp.per _ (List.mem_of_getElem? hj) w' hk))
theorem qqK {c : Code} (i : Nat) (hF : F[i]? = some (HN inn x zs)) (h : zs.map (·.1) = x → SXC P ro n D M0 w0 Q c l B R F m r) : SXC P ro n D M0 w0 Q c l B R F m r :=
  fun hm a w hf hp => h (hp.per _ (List.mem_of_getElem? hF)).here.1 hm a w hf hp
theorem qkl {s e' : TypeId} {o : Operand} {a : Option Addr} {c h0 : Nat} (i : Nat) (hF : F[i]? = some (HN inn x zs)) (hw : wants ops l ⟨some d, .call ⟨.builtin .len, #[o], #[s]⟩, t, pos, af, gd⟩ = some true) (ht : P.underlying s = some (.slice e')) (hx : ev l o = some (qv a h0 zs.length c size)) (hd : Nat.blt d n = true)
    (hh : SXO P ro n D M0 w0 Q ops rest ((d, .int .i64 (x.length : Int)) :: l) B R F m r) : SXO P ro n D M0 w0 Q ops (⟨some d, .call ⟨.builtin .len, #[o], #[s]⟩, t, pos, af, gd⟩ :: rest) l B R F m r := by
  intro hm ac w hf hp
  have hl := qnt (hp.per _ (List.mem_of_getElem? hF)).here
  rw [hl] at hh
  exact qot hw ht hx hd hh hm ac w hf hp
theorem qos {enc : α × γ → List Value} {hs : List (α × γ)} {k : α → Option ρ} {s ix : Operand} {ki : IntKind} {i : Int} {a : Option Addr} {c j f : Nat}
    (hF : F[f]? = some (HN inn x zs)) (hw : wants ops l ⟨some d, .indexAddr t' s ix, t, pos, af, gd⟩ = some true) (ht : P.underlying t' = some (.slice e)) (hT : TyF P e agg z size bytes) (hx : ev l s = some (qv a hs.length zs.length c size)) (hi : ev l ix = some (.int ki i))
    (hR : R[j]? = some (Ro enc e size (.slice a (hs ++ zs).length c) (hs ++ zs))) (hd : Nat.blt d n = true)
    (h : ∀ y, idx x i = some y → ∀ q, (hs ++ zs)[hs.length + i.toNat]? = some (y, q) → ∀ g, (Value.slice a (hs ++ zs).length c).ownBlock = some g → SXO P ro n D M0 w0 Q ops rest ((d, .pointer (some ⟨g, (hs.length + i.toNat) * size, none⟩)) :: l) B R (inn (y, q) ++ F) (k y) r) :
    SXO P ro n D M0 w0 Q ops (⟨some d, .indexAddr t' s ix, t, pos, af, gd⟩ :: rest) l B R F ((idx x i).bind k) r := by
  intro hm ac w hf hp
  have hn := (hp.per _ (List.mem_of_getElem? hF))
  cases hq : idx x i with
  | none => rw [hq] at hm; simp at hm
  | some y =>
    obtain ⟨h0, h1, h2⟩ := qt hq
    rw [← hn.here.1, List.getElem?_map] at h2
    obtain ⟨p, hp1, hp2⟩ := Option.map_eq_some_iff.1 h2
    obtain ⟨y', q⟩ := p
    simp only at hp2
    subst hp2
    have hz : idx zs i = some (y', q) := by unfold idx; rw [if_pos h0]; exact hp1
    refine qhd (r := r) (k := fun _ => k y') hw ht hT hx hi hR hd (fun u hu g hg => ?_) ?_ ac w hf hp
    · intro hm' ac' w' hf' hp'
      refine h y' hq q (qlN hz) g hg hm' ac' w' hf' ?_
      refine ⟨hp'.keep, hp'.blk, hp'.rows, hp'.nodup, hp'.fresh, fun φ hφ => ?_⟩
      rcases List.mem_append.1 hφ with hφ | hφ
      · intro w'' hk
        exact ((hp'.per _ (List.mem_of_getElem? hF)) w'' hk).2 (y', q) (List.mem_of_getElem? hp1) φ hφ
      · exact hp'.per φ hφ
    · rw [hz]
      rw [hq] at hm
      exact hm
theorem qmE {α γ : Type} {mg : Option α} {k : α → Option ρ} {f : FuncId} {xs : Array Operand} {tys : Array TypeId} {vs : List Value} {Φ : List (World → Prop)} {V : α → γ → Value} {RW : α → γ → List RowD} {PH : α → γ → List (World → Prop)}
    (he : Enters P f) (hw : wants ops l ⟨some d, .call ⟨.value (.func f), xs, tys⟩, t, pos, af, gd⟩ = some true) (hx : evArgs l xs.toList = some vs) (hd : Nat.blt d n = true)
    (hC : ∀ y, mg = some y → Pure P f vs Φ γ (V y) (RW y) (PH y)) (ha : ∀ w, Hp M0 w0 w B R F → ∀ φ ∈ Φ, φ w)
    (h : ∀ y, mg = some y → ∀ g, SXO P ro n D M0 w0 Q ops rest ((d, V y g) :: l) B (RW y g ++ R) (PH y g ++ F) (k y) r) :
    SXO P ro n D M0 w0 Q ops (⟨some d, .call ⟨.value (.func f), xs, tys⟩, t, pos, af, gd⟩ :: rest) l B R F (mg.bind k) r := by
  intro hm a w hf hp
  cases hq : mg with
  | none => rw [hq] at hm; simp at hm
  | some y =>
    rw [hq] at hm
    have hm' : k y = some r := by simpa using hm
    refine qcx (zX hf hw) (jA hw) (qg4 hf he hx) ((hC y hq w (Hp.start fun φ hφ w' hk => ha w' (hp.step hk) φ hφ)).mono fun e w' ⟨g, h1, h2⟩ => ⟨V y g, h1, ?_⟩)
    exact h y hq g hm' _ _ (hf.put hd _) (hp.call h2)
theorem qqp {enc : α × γ → List Value} {hs : List (α × γ)} {w : World} {a : Option Addr} {c f j : Nat} (henc : EncOk enc size) (hp : Hp M0 w0 w B R F) (hF : F[f]? = some (HN inn x zs)) (hR : R[j]? = some (Ro enc e size (.slice a (hs ++ zs).length c) (hs ++ zs))) :
    SlN enc inn size (qv a hs.length zs.length c size) x (zs.map (·.2)) w := by
  have hn := (hp.per _ (List.mem_of_getElem? hF)).here
  have hzip : x.zip (zs.map (·.2)) = zs := by rw [← hn.1]; exact qks zs
  refine ⟨by rw [qnt hn, List.length_map], ?_, ?_⟩
  · rw [hzip]
    have ho := hp.row _ (List.mem_of_getElem? hR)
    have h9 : w.ownsRow 0 e size (.slice a (hs ++ zs).length c) (hs ++ zs).length ((hs ++ zs).flatMap enc) := ho
    rw [List.length_append, List.flatMap_append] at h9
    exact qj9 (qP henc hs) (qP henc zs) h9
  · rw [hzip]; exact hn.2
theorem qlb {ys : List α} {enc : α → List Value} {a : Option Addr} {c : Nat} (j : Nat) (hR : R[j]? = some (Ro enc e size (.slice a ys.length c) ys)) (hn : 0 < ys.length) (h : ∀ g, a = some ⟨g, 0, none⟩ → SXO P ro n D M0 w0 Q ops rest l B R F m r) : SXO P ro n D M0 w0 Q ops rest l B R F m r := by
  intro hm ac w hf hp
  obtain ⟨g, hg, _⟩ := qft (hp.row _ (List.mem_of_getElem? hR)) hn
  exact h g hg hm ac w hf hp
def popM {α : Type} : List α → Option (α × List α) | y :: t => some (y, t) | [] => none
theorem qga {enc : α × γ → List Value} {hs : List (α × γ)} {k : α × List α → Option ρ} {f T g c i j p : Nat} {a : Option Addr} {xs : Array Operand} {tys : Array TypeId} {V : α × γ → Value}
    (he : Enters P f) (hw : wants ops l ⟨some d, .call ⟨.value (.func f), xs, tys⟩, t, pos, af, gd⟩ = some true) (hx : evArgs l xs.toList = some [.pointer (some ⟨g, 0, none⟩)]) (hd : Nat.blt d n = true)
    (hC : ∀ q zs', PureM P f [.pointer (some ⟨g, 0, none⟩)] [⟨g, T, [qv a hs.length (q :: zs').length c size]⟩] [Ro enc e size (.slice a (hs ++ q :: zs').length c) (hs ++ q :: zs')] [] (List (α × γ)) (fun _ => V q) (fun h' => [⟨g, T, [qv a h'.length zs'.length c size]⟩]) (fun h' => [Ro enc e size (.slice a (h' ++ zs').length c) (h' ++ zs')]))
    (hB : B[i]? = some ⟨g, T, [qv a hs.length zs.length c size]⟩) (hR : R[j]? = some (Ro enc e size (.slice a (hs ++ zs).length c) (hs ++ zs))) (hF : F[p]? = some (HN inn x zs))
    (h : ∀ y, popM x = some y → ∀ (q : γ) (zs' hs' : List (α × γ)), SXO P ro n D M0 w0 Q ops rest ((d, V (y.1, q)) :: l) (⟨g, T, [qv a hs'.length zs'.length c size]⟩ :: B.eraseIdx i) (Ro enc e size (.slice a (hs' ++ zs').length c) (hs' ++ zs') :: R.eraseIdx j) (HN inn y.2 zs' :: (inn (y.1, q) ++ F)) (k y) r) :
    SXO P ro n D M0 w0 Q ops (⟨some d, .call ⟨.value (.func f), xs, tys⟩, t, pos, af, gd⟩ :: rest) l B R F ((popM x).bind k) r := by
  intro hm ac w hf hp
  have hn := (hp.per _ (List.mem_of_getElem? hF))
  cases hq : popM x with
  | none => rw [hq] at hm; simp at hm
  | some yt =>
    obtain ⟨y, tl⟩ := yt
    have hxc : x = y :: tl := by
      cases x with
      | nil => simp [popM] at hq
      | cons b t => simp only [popM, Option.some.injEq, Prod.mk.injEq] at hq; rw [hq.1, hq.2]
    have h1 := hn.here.1
    rw [hxc] at h1
    cases zs with
    | nil => simp at h1
    | cons z0 zs' =>
      obtain ⟨y', q⟩ := z0
      simp only [List.map_cons, List.cons.injEq] at h1
      obtain ⟨rfl, ht⟩ := h1
      refine qa0 (mg := (some () : Option Unit)) (k := fun _ => k (y', tl)) (V := fun _ _ => V (y', q)) (B1 := fun _ h' => [⟨g, T, [qv a h'.length zs'.length c size]⟩]) (R1 := fun _ h' => [Ro enc e size (.slice a (h' ++ zs').length c) (h' ++ zs')])
        he hw hx hd (fun _ _ => hC (y', q) zs') (.cons i hB .nil) (.cons j hR .nil) .nil (fun _ _ h' => ?_) (by rw [hq] at hm; exact hm) ac w hf hp
      intro hm' ac' w' hf' hp'
      refine h (y', tl) hq q zs' h' hm' ac' w' hf' ?_
      refine ⟨hp'.keep, hp'.blk, hp'.rows, hp'.nodup, hp'.fresh, fun φ hφ => ?_⟩
      rcases List.mem_cons.1 hφ with rfl | hφ
      · intro w'' hk
        have h3 := (hp'.per _ (List.mem_of_getElem? hF)) w'' hk
        exact ⟨ht, fun p hp => h3.2 p (List.mem_cons_of_mem _ hp)⟩
      · rcases List.mem_append.1 hφ with hφ | hφ
        · intro w'' hk
          have h3 := (hp'.per _ (List.mem_of_getElem? hF)) w'' hk
          exact h3.2 (y', q) (by simp) φ hφ
        · exact hp'.per φ hφ
end hn
end rules
end SX
namespace SX
open Go
def cutP {α : Type} (Y : List α) (k : Int) : Option (List α × List α) := if 0 ≤ k ∧ k ≤ Y.length then some (Y.take k.toNat, Y.drop k.toNat) else none
theorem qfK {α : Type} {enc : α → List Value} {size : Nat} (henc : EncOk enc size) {ao : Option Addr} {c : Nat} {xs ts : List α} {w : World} (h : Sl enc size (.slice ao (xs ++ ts).length c) (xs ++ ts) w) : Sl enc size (.slice ao xs.length c) xs w := by
  obtain ⟨⟨a, cap, e1, hn, hm, hs, hc⟩, hl⟩ := h
  simp only [Value.slice.injEq, true_and] at e1
  obtain ⟨rfl, rfl⟩ := e1
  have hlen : (xs ++ ts).length = xs.length + ts.length := List.length_append
  have hfl := qP henc xs
  refine ⟨⟨ao, c, rfl, by omega, by omega, fun ad had => ?_, fun j u hj => ?_⟩, hfl⟩
  · by_cases h0 : xs.flatMap enc = []
    · exact .inl h0
    · rcases hs ad had with h2 | h2
      · rw [List.flatMap_append] at h2
        exact absurd (List.append_eq_nil_iff.1 h2).1 h0
      · exact .inr h2
  · refine hc j u ?_
    rw [List.flatMap_append, List.getElem?_append_left (List.getElem?_eq_some_iff.1 hj).1]
    exact hj
theorem qaW {α : Type} {enc : α → List Value} {size e : Nat} (henc : EncOk enc size) {ao : Option Addr} {c : Nat} {xs ts : List α} : ∀ w : World, (Ro enc e size (.slice ao (xs ++ ts).length c) (xs ++ ts)).owns w → Sl enc size (.slice ao xs.length c) xs w :=
  fun _ h => qfK henc (zj h.1)
section rules
variable {P : Program} {ro : Option Nat} {n : Nat} {D : List Deferred} {M0 : List Nat} {w0 : World} {Q : Exit → Act → World → Prop} {ρ : Type}
variable {ops : Array Oper} {rest : List Oper} {l : Env} {B : List BlkD} {R : List RowD} {F : List (World → Prop)} {m : Option ρ} {r : ρ}
variable {d : Nat} {t t' e : TypeId} {pos : String} {af : Array Edge} {gd : Option (Nat × Bool)} {agg : Bool} {z : Value} {size bytes : Nat} {α : Type} {enc : α → List Value}
theorem Hp.moreF {w : World} {φ ψ : World → Prop} {j : Nat} (hp : Hp M0 w0 w B R F) (hF : F[j]? = some φ) (h : ∀ w, φ w → ψ w) : Hp M0 w0 w B R (ψ :: F) :=
  { hp with per := fun χ hχ => (List.mem_cons.1 hχ).elim (fun e => e ▸ fun w' hk => h w' (hp.per φ (List.mem_of_getElem? hF) w' hk)) (hp.per χ) }
theorem qki {c : Code} {ao : Option Addr} {cc : Nat} {xs ts : List α} (j : Nat) (henc : EncOk enc size) (hF : F[j]? = some (Sl enc size (.slice ao (xs ++ ts).length cc) (xs ++ ts)))
    (h : SXC P ro n D M0 w0 Q c l B R (Sl enc size (.slice ao xs.length cc) xs :: F) m r) : SXC P ro n D M0 w0 Q c l B R F m r :=
  fun hm a w hf hp => h hm a w hf (hp.moreF hF fun _ => qfK henc)
theorem qow {ao : Option Addr} {cc : Nat} {xs ts : List α} (j : Nat) (henc : EncOk enc size) (hF : F[j]? = some (Sl enc size (.slice ao (xs ++ ts).length cc) (xs ++ ts)))
    (h : SXO P ro n D M0 w0 Q ops rest l B R (Sl enc size (.slice ao xs.length cc) xs :: F) m r) : SXO P ro n D M0 w0 Q ops rest l B R F m r :=
  fun hm a w hf hp => h hm a w hf (hp.moreF hF fun _ => qfK henc)
theorem qlQ {w : World} {ao : Option Addr} {c : Nat} {Y : List α} (h : (Ro enc e size (.slice ao Y.length c) Y).own w) : Y.length ≤ c := by
  rcases h.2 with ⟨h5, h6⟩ | ⟨g', cap, cur, h5, _, hgg, hnc, _⟩
  · have h6' : Y.length = 0 := h6
    omega
  · have h5' : Value.slice ao Y.length c = .slice (some ⟨g', 0, none⟩) Y.length cap := h5
    simp only [Value.slice.injEq, true_and] at h5'
    have hnc' : Y.length ≤ cap := hnc
    omega
theorem cutv0 {ao : Option Addr} {c size H : Nat} (h : ∀ a, ao = some a → a.add 0 = a) : cutv ao c size ((0 : Nat) : Int) (H : Int) = .slice ao H c := by
  unfold cutv
  cases ao with
  | none => simp
  | some a => simp [h a rfl]
theorem qop {Y : List α} {k : List α × List α → Option ρ} {x : Operand} {hi : Option Operand} {hj : Int} {ao : Option Addr} {c i : Nat}
    (hw : wants ops l ⟨some d, .slice t' x none hi none, t, pos, af, gd⟩ = some true) (ht : P.underlying t' = some (.slice e)) (hT : TyF P e agg z size bytes) (hx : ev l x = some (.slice ao Y.length c))
    (hhi : evOpt l hi (Y.length : Int) = some hj) (hR : R[i]? = some (Ro enc e size (.slice ao Y.length c) Y)) (hd : Nat.blt d n = true)
    (h : ∀ q, cutP Y hj = some q → SXO P ro n D M0 w0 Q ops rest ((d, .slice ao q.1.length c) :: l) B (R.set i (Ro enc e size (.slice ao (q.1 ++ q.2).length c) (q.1 ++ q.2))) F (k q) r) :
    SXO P ro n D M0 w0 Q ops (⟨some d, .slice t' x none hi none, t, pos, af, gd⟩ :: rest) l B R F ((cutP Y hj).bind k) r := by
  intro hm a w hf hp
  cases hq : cutP Y hj with
  | none => rw [hq] at hm; simp at hm
  | some q =>
    rw [hq] at hm
    have hm' : k q = some r := by simpa using hm
    have h2 := h q hq
    unfold cutP at hq
    split at hq
    · rename_i hb
      simp only [Option.some.injEq] at hq
      obtain ⟨H, rfl⟩ := Int.eq_ofNat_of_zero_le hb.1
      have hown := hp.row _ (List.mem_of_getElem? hR)
      have hcap := qlQ hown
      have e1 : q.1 ++ q.2 = Y := by rw [← hq]; exact List.take_append_drop _ _
      have e2 : q.1.length = H := by rw [← hq]; simp; omega
      rw [e1, e2] at h2
      have e3 : R.set i (Ro enc e size (.slice ao Y.length c) Y) = R := by
        obtain ⟨hl, hv⟩ := List.getElem?_eq_some_iff.1 hR
        rw [← hv]
        exact List.set_getElem_self hl
      rw [e3] at h2
      refine qbD (L := 0) (H := H) hw ht hT hx rfl hhi (Nat.zero_le _) (by omega) (cutv0 fun ad had => ?_) hd h2 hm' a w hf hp
      rcases hown.2 with ⟨h5, h6⟩ | ⟨g, cap, cur, h5, _⟩
      · have h5' : Value.slice ao Y.length c = .slice none 0 0 := h5
        simp only [Value.slice.injEq] at h5'
        rw [h5'.1] at had; simp at had
      · have h5' : Value.slice ao Y.length c = .slice (some ⟨g, 0, none⟩) Y.length cap := h5
        simp only [Value.slice.injEq, true_and] at h5'
        rw [h5'.1] at had
        simp only [Option.some.injEq] at had
        subst had
        rw [yE]
    · simp at hq
theorem qmI {xs ts : List α} {x : Operand} {hi : Option Operand} {hj : Int} {ao : Option Addr} {c i : Nat}
    (hw : wants ops l ⟨some d, .slice t' x none hi none, t, pos, af, gd⟩ = some true) (ht : P.underlying t' = some (.slice e)) (hT : TyF P e agg z size bytes) (hx : ev l x = some (.slice ao xs.length c))
    (hhi : evOpt l hi (xs.length : Int) = some hj) (hR : R[i]? = some (Ro enc e size (.slice ao (xs ++ ts).length c) (xs ++ ts))) (hd : Nat.blt d n = true)
    (h : SXO P ro n D M0 w0 Q ops rest ((d, .slice ao (xs ++ ts).length c) :: l) B R F m r) :
    SXO P ro n D M0 w0 Q ops (⟨some d, .slice t' x none hi none, t, pos, af, gd⟩ :: rest) l B R F (chk (decide (hj = ((xs ++ ts).length : Int))) m) r := by
  refine qfy fun hc => ?_
  replace hc := of_decide_eq_true hc
  subst hc
  intro hm a w hf hp
  have hown := hp.row _ (List.mem_of_getElem? hR)
  have hcap := qlQ hown
  refine qbD (L := 0) (H := (xs ++ ts).length) hw ht hT hx rfl hhi (Nat.zero_le _) hcap (cutv0 fun ad had => ?_) hd h hm a w hf hp
  rcases hown.2 with ⟨h5, h6⟩ | ⟨g, cap, cur, h5, _⟩
  · have h5' : Value.slice ao (xs ++ ts).length c = .slice none 0 0 := h5
    simp only [Value.slice.injEq] at h5'
    rw [h5'.1] at had; simp at had
  · have h5' : Value.slice ao (xs ++ ts).length c = .slice (some ⟨g, 0, none⟩) (xs ++ ts).length cap := h5
    simp only [Value.slice.injEq, true_and] at h5'
    rw [h5'.1] at had
    simp only [Option.some.injEq] at had
    subst had
    rw [yE]
theorem qhc {xs ts : List α} {x : Operand} {hi : Option Operand} {hj : Int} {ao : Option Addr} {c j : Nat} (henc : EncOk enc size) (hs0 : size ≠ 0) (hts : 0 < ts.length)
    (hw : wants ops l ⟨some d, .slice t' x none hi none, t, pos, af, gd⟩ = some true) (ht : P.underlying t' = some (.slice e)) (hT : TyF P e agg z size bytes) (hx : ev l x = some (.slice ao xs.length c))
    (hhi : evOpt l hi (xs.length : Int) = some hj) (hF : F[j]? = some (Sl enc size (.slice ao (xs ++ ts).length c) (xs ++ ts))) (hd : Nat.blt d n = true)
    (h : SXO P ro n D M0 w0 Q ops rest ((d, .slice ao (xs ++ ts).length c) :: l) B R F m r) :
    SXO P ro n D M0 w0 Q ops (⟨some d, .slice t' x none hi none, t, pos, af, gd⟩ :: rest) l B R F (chk (decide (hj = ((xs ++ ts).length : Int))) m) r := by
  refine qfy fun hc => ?_
  replace hc := of_decide_eq_true hc
  subst hc
  intro hm a w hf hp
  have hS := (hp.per _ (List.mem_of_getElem? hF)).here
  obtain ⟨⟨a1, cap, e1, hn, hm1, hs, hc⟩, hl⟩ := hS
  simp only [Value.slice.injEq, true_and] at e1
  obtain ⟨rfl, rfl⟩ := e1
  refine qbD (L := 0) (H := (xs ++ ts).length) hw ht hT hx rfl hhi (Nat.zero_le _) hn (cutv0 fun ad had => ?_) hd h hm a w hf hp
  rcases hs ad had with h2 | h2
  · have h3 := qP henc (xs ++ ts)
    rw [h2] at h3
    simp only [List.length_nil, List.length_append] at h3
    rcases Nat.mul_eq_zero.1 h3.symm with h4 | h4
    · omega
    · exact absurd h4 hs0
  · obtain ⟨b, o, sp⟩ := ad
    simp only at h2
    subst h2
    rw [yE]
    simp
theorem qjb {x c : Operand} {kl kc : IntKind} {i : Int} {lim : Nat} (_henc : EncOk enc 1)
    (hw : wants ops l ⟨some d, .makeSlice t' x c, t, pos, af, gd⟩ = some true) (ht : P.underlying t' = some (.slice e)) (hT : TyF P e agg z 1 bytes) (hx : ev l x = some (.int kl 0)) (hc : ev l c = some (.int kc i))
    (hlim : Nat.ble lim 9223372036854775807 = true) (hlb : Nat.ble (lim * bytes) 281474976710656 = true) (hd : Nat.blt d n = true)
    (h : ∀ a c, SXO P ro n D M0 w0 Q ops rest ((d, .slice a ([] : List α).length c) :: l) B (Ro enc e 1 (.slice a ([] : List α).length c) [] :: R) F m r) :
    SXO P ro n D M0 w0 Q ops (⟨some d, .makeSlice t' x c, t, pos, af, gd⟩ :: rest) l B R F (chk (decide (0 ≤ i ∧ i ≤ (lim : Int))) m) r := by
  refine qfy fun hb => ?_
  replace hb := of_decide_eq_true hb
  refine kw hw fun hm a w hf hp => ?_
  obtain ⟨N, rfl⟩ := Int.eq_ofNat_of_zero_le hb.1
  have hN : N ≤ lim := by omega
  have hlim' := Nat.le_of_ble_eq_true hlim
  have hlb' := Nat.le_of_ble_eq_true hlb
  obtain ⟨i0, hi, hz0, hs0', hb0⟩ := hT.inf
  subst hb0
  have h1 := hf.ev hx
  have h2 := hf.ev hc
  have hmb : ((N * i0.bytes : Nat) : Int) ≤ 281474976710656 := by
    have := Nat.le_trans (Nat.mul_le_mul_right i0.bytes hN) hlb'
    omega
  rw [Int.natCast_mul, Int.mul_comm] at hmb
  have hr := run_make (P := P) w t' e i0 z ht hi hz0 kl kc 0 N (by omega) (by omega) hmb (by omega)
  rw [Int.toNat_natCast, hs0'] at hr
  have ho : (w.alloc (.cells (madeCells z.cells (N * 1)) e)).ownsRow 0 e 1 (.slice (some ⟨w.heap.size, 0, none⟩) 0 N) 0 [] :=
    ⟨by simp, .inr ⟨w.heap.size, N, madeCells z.cells (N * 1), rfl, Nat.zero_le _, heap_alloc_new w _, Nat.zero_le _, by simp only [maxLen]; omega, size_madeCells _ _, by simp⟩⟩
  have hz := h (some ⟨w.heap.size, 0, none⟩) N
  refine ⟨_, w.alloc (.cells (madeCells z.cells (N * 1)) e), ?_, hz hm _ _ (hf.put hd (.slice (some ⟨w.heap.size, 0, none⟩) 0 N)) (hp.addRow (Keeps.alloc [] w _) ?_ ?_)⟩
  · generalize a.eval = ε at h1 h2 ⊢
    simp [execOp, h1, h2, hr]
  · exact ho
  · intro g hg'
    simp [Ro, Value.ownBlock] at hg'
    omega
theorem qj6 {β : Type} {hs hs' : List Nat} (h : ∀ x ∈ hs, x ∈ hs') : ∀ (k : Nat) (l : List β), (outs hs' k l).Sublist (outs hs k l)
  | _, [] => List.Sublist.refl _
  | k, x :: t => by
    show (if k ∈ hs' then outs hs' (k + 1) t else x :: outs hs' (k + 1) t).Sublist (if k ∈ hs then outs hs (k + 1) t else x :: outs hs (k + 1) t)
    have ih := qj6 h (k + 1) t
    by_cases h1 : k ∈ hs
    · rw [if_pos h1, if_pos (h k h1)]; exact ih
    · rw [if_neg h1]
      by_cases h2 : k ∈ hs'
      · rw [if_pos h2]; exact ih.cons x
      · rw [if_neg h2]; exact ih.cons_cons x
theorem qjJ {β γ : Type} (f : β → List γ) {A C : List β} (h : A.Sublist C) : (A.flatMap f).Sublist (C.flatMap f) := by
  induction h with
  | slnil => exact List.Sublist.refl _
  | cons a _ ih => rw [List.flatMap_cons]; exact ih.trans (List.sublist_append_right _ _)
  | cons_cons a _ ih => rw [List.flatMap_cons, List.flatMap_cons]; exact List.Sublist.append (List.Sublist.refl _) ih
theorem Hp.deadN {w : World} {β γ : Type} {enc : β × γ → List Value} {rin : β × γ → List RowF} {e size i : Nat} {v : Value} {xs : List β} {gs : List γ} {hs hs' : List Nat} (h : Hp M0 w0 w B R F) (hR : R[i]? = some (RoN enc rin e size v xs gs hs)) (hsub : ∀ x ∈ hs, x ∈ hs') (hnd : hs'.Nodup) :
    Hp M0 w0 w B (R.set i (RoN enc rin e size v xs gs hs')) F := by
  obtain ⟨hl, _⟩ := h.nestOk hR
  obtain ⟨hlt, hv⟩ := List.getElem?_eq_some_iff.1 hR
  obtain ⟨A, C, hAC, hset⟩ : ∃ A C, R = A ++ RoN enc rin e size v xs gs hs :: C ∧ R.set i (RoN enc rin e size v xs gs hs') = A ++ RoN enc rin e size v xs gs hs' :: C :=
    ⟨R.take i, R.drop (i + 1), by rw [← hv, List.getElem_cons_drop, List.take_append_drop], by rw [List.set_eq_take_append_cons_drop, if_pos hlt]⟩
  have hso := qj6 hsub 0 (xs.zip gs)
  have hbl : ((RoN enc rin e size v xs gs hs').blocks).Sublist ((RoN enc rin e size v xs gs hs).blocks) := by
    rw [kr, kr]
    exact List.Sublist.append (List.Sublist.refl _) ((qjJ rin hso).filterMap _)
  have hmu : (muts B (R.set i (RoN enc rin e size v xs gs hs'))).Sublist (muts B R) := by
    unfold muts
    refine List.Sublist.append (List.Sublist.refl _) ?_
    rw [hset]
    conv => rhs; rw [hAC]
    rw [List.flatMap_append, List.flatMap_append, List.flatMap_cons, List.flatMap_cons]
    exact List.Sublist.append (List.Sublist.refl _) (List.Sublist.append hbl (List.Sublist.refl _))
  have hrow := h.rows _ (List.mem_of_getElem? hR)
  refine { keep := h.keep, blk := h.blk, rows := fun r hr => ?_, nodup := hmu.nodup h.nodup, fresh := fun g hg => h.fresh g (hmu.subset hg), per := fun φ hφ => (h.per φ hφ).less fun k hk => hmu.subset hk }
  rw [hset] at hr
  have hmem : ∀ r, r ∈ A ∨ r ∈ C → r.owns w := fun r hr => h.rows r (by rw [hAC]; rcases hr with hr | hr <;> simp [hr])
  rcases List.mem_append.1 hr with hr | hr
  · exact hmem r (.inl hr)
  · rcases List.mem_cons.1 hr with rfl | hr
    · refine ⟨hrow.1, fun f hf => ?_⟩
      rcases List.mem_cons.1 hf with rfl | hf
      · exact qad.2 (by simp [hl, hnd])
      · exact hrow.2 f (List.mem_cons_of_mem _ ((qjJ rin hso).subset hf))
    · exact hmem r (.inr hr)
theorem qmF {β γ : Type} {enc : β × γ → List Value} {rin : β × γ → List RowF} {e size : Nat} {v : Value} {xs : List β} {gs : List γ} {hs : List Nat} (i : Nat) (d' : Int) (hR : R[i]? = some (RoN enc rin e size v xs gs hs)) (hsub : ∀ x ∈ hs, x ∈ List.range d'.toNat)
    (h : SXO P ro n D M0 w0 Q ops rest l B (R.set i (RoN enc rin e size v xs gs (List.range d'.toNat))) F m r) : SXO P ro n D M0 w0 Q ops rest l B R F m r :=
  fun hm a w hf hp => h hm a w hf (hp.deadN hR hsub List.nodup_range)
theorem qnb {i d d' : Int} (h : decide (d.toNat ≤ d'.toNat ∧ i.toNat < d'.toNat) = true) : ∀ x ∈ i.toNat :: List.range d.toNat, x ∈ List.range d'.toNat := by
  have h := of_decide_eq_true h
  intro x hx
  rw [List.mem_range]
  rcases List.mem_cons.1 hx with rfl | hx
  · exact h.2
  · have := List.mem_range.1 hx; omega
theorem qjC {i d : Int} (h : decide (d.toNat ≤ i.toNat) = true) : i.toNat ∉ List.range d.toNat := by
  have h := of_decide_eq_true h
  rw [List.mem_range]
  omega
end rules
end SX
namespace SX
open Go Go.Sort Go.Proofs
def CellsW (w : World) (blk N : Nat) (W : World) : Prop := ∃ (m : Nat) (os : Array Obj) (A : Array Value), A.size = N ∧ W = grow (putRow id (ahead w m) blk 0 A) os
def qiG (P : Program) (f g : FuncId) (k : Nat) (arg : List Value → Value) (cb : Array Value) : Prop :=
  ∀ (α : Type) [Inhabited α] (enc : α → List Value), (∀ x, (enc x).length = k) → (∀ x, ∀ v ∈ enc x, v.oneCell' = true) → ∀ (cf : α → α → Int), SWO (ltOf cf) → (∀ x y, ltOf cf x y = false → ltOf cf y x = false → x = y) →
    ∀ (blk cap : Nat) (d : Array α) (w : World),
      (∀ W, CellsW w blk (d.size * k) W → ∀ x y : α, Calls P g (#[arg (enc x), arg (enc y)] ++ cb) W fun e w' => e = .returned (.int .i64 (cf x y)) ∧ ∃ q os', w' = grow (W.drewN q) os') →
      HoldsK enc k w blk 0 d → blk < w.heap.size → d.size < 4611686018427387904 →
      Calls P f #[.slice (some ⟨blk, 0, none⟩) d.size cap, .func (.func g) #[] cb] w fun e w' =>
        e = .returned (.tuple #[]) ∧ ∃ n os, w' = grow (putRow id (ahead w n) blk 0 (flatK enc k (d.toList.mergeSort fun x y => !(ltOf cf) y x).toArray)) os
theorem qmy {P : Program} {f g : Nat} {cb : Array Value}
    (h : ∀ (α : Type) [Inhabited α] (enc : α → Value), OneCell enc → ∀ (cf : α → α → Int), SWO (ltOf cf) → ∀ (blk cap : Nat) (d : Array α) (w : World), CmpLays1 P g cb enc cf blk 0 d.size w → Holds enc w blk 0 d → blk < w.heap.size → d.size < 4611686018427387904 → (∀ x y, ltOf cf x y = false → ltOf cf y x = false → x = y) →
      Calls P f #[.slice (some ⟨blk, 0, none⟩) d.size cap, .func (.func g) #[] cb] w fun e w' => e = .returned (.tuple #[]) ∧ ∃ n os, w' = sortWorld enc w blk 0 n (d.toList.mergeSort fun x y => !(ltOf cf) y x).toArray os) :
    qiG P f g 1 (fun l => l.getD 0 undef) cb := by
  intro α _ enc hk h1 cf hO hT blk cap d w hc hH hb hsz
  have henc : ∀ x, enc x = [(enc x).getD 0 undef] := fun x => by
    have := hk x
    match he : enc x with
    | [v] => rfl
    | [] => rw [he] at this; simp at this
    | _ :: _ :: _ => rw [he] at this; simp at this
  have hfl : ∀ (dk : Array α), flatK enc 1 dk = dk.map (fun x => (enc x).getD 0 undef) := by
    intro dk
    apply Array.ext
    · simp
    · intro t h1 h2
      have ht : t < dk.size := by simpa using h2
      have h3 := get_flatK enc 1 dk t (by omega)
      rw [getElem!_pos _ t h1] at h3
      rw [h3, Array.getElem_map, Nat.div_one, Nat.mod_one, getElem!_pos dk t ht, henc dk[t]]
      rfl
  have hput : ∀ (w : World) (dk : Array α), putRow (fun x => (enc x).getD 0 undef) w blk 0 dk = putRow id w blk 0 (flatK enc 1 dk) := by
    intro w dk
    unfold putRow
    congr 1
    funext cs
    unfold putCells
    rw [hfl]
    apply Array.ext
    · simp
    · intro t h1 h2
      simp only [Array.getElem_mapIdx, Array.size_map, Nat.sub_zero]
      split
      · rename_i hh
        rw [getElem!_pos (dk.map _) t (by simpa using hh.2), Array.getElem_map, getElem!_pos dk t (by omega)]
        rfl
      · rfl
  have hone : OneCell (fun x => (enc x).getD 0 undef) := fun x => h1 x _ (by rw [henc x]; simp)
  have hm := h α (fun x => (enc x).getD 0 undef) hone cf hO blk cap d w (fun m os dk hdk x y => by
      have := hc _ ⟨m, os, flatK enc 1 dk, by rw [size_flatK, hdk], rfl⟩ x y
      unfold sortWorld
      rw [hput]
      exact this)
    (fun j hj => by
      have := hH j (by simpa using hj)
      have h3 := get_flatK enc 1 d j (by omega)
      rw [h3, Nat.div_one, Nat.mod_one, henc d[j]!] at this
      exact this)
    hb hsz hT
  refine hm.mono fun e' w' ⟨e1, n, os, e2⟩ => ⟨e1, n, os, ?_⟩
  rw [e2]
  unfold sortWorld
  rw [hput]
theorem qj7 {A cur : Array Value} (h : A.size ≤ cur.size) : (putCells id 0 A cur).toList.take A.size = A.toList := by
  apply List.ext_getElem?
  intro j
  unfold putCells
  by_cases hj : j < A.size
  · have hc : j < cur.size := by omega
    rw [List.getElem?_take_of_lt hj, Array.getElem?_toList, Array.getElem?_mapIdx, Array.getElem?_eq_getElem hc]
    simp only [Option.map_some]
    rw [if_pos (by omega), Nat.sub_zero, getElem!_pos A j hj, Array.getElem?_toList, Array.getElem?_eq_getElem hj]
    rfl
  · rw [List.getElem?_eq_none (by simp; omega), List.getElem?_eq_none (by simp; omega)]
theorem qj8 {w : World} {g e : Nat} {fz : Nat × Nat} {cur A : Array Value} (h : w.heap[g]? = some (.cells cur e fz)) : (putRow id w g 0 A).heap[g]? = some (.cells (putCells id 0 A cur) e fz) := by
  unfold putRow mapBlock
  show (w.heap.modify g _)[g]? = _
  rw [Array.getElem?_modify, if_pos rfl, h]
  rfl
theorem qg1 {w : World} {g k : Nat} {A : Array Value} (h : k ≠ g) : (putRow id w g 0 A).heap[k]? = w.heap[k]? := by
  unfold putRow mapBlock
  show (w.heap.modify g _)[k]? = _
  rw [Array.getElem?_modify, if_neg (fun e => h e.symm)]
theorem qeg {w : World} {g n : Nat} {A : Array Value} {os : Array Obj} : Keeps [g] w (grow (putRow id (ahead w n) g 0 A) os) := by
  have hs : (putRow id (ahead w n) g 0 A).heap.size = w.heap.size := by
    show (w.heap.modify g _).size = _
    simp
  refine ⟨rfl, rfl, rfl, ?_, fun k hk hn => ?_, Nat.le_add_right _ _⟩
  · show w.heap.size ≤ ((putRow id (ahead w n) g 0 A).heap ++ os).size
    rw [Array.size_append]; omega
  · show ((putRow id (ahead w n) g 0 A).heap ++ os)[k]? = _
    rw [Array.getElem?_append_left (by omega), qg1 (by simpa using hn)]
    rfl
theorem Keeps.grown {w w' : World} (h : Keeps [] w w') : ∃ q os, w' = grow (w.drewN q) os := by
  refine ⟨w'.drawn - w.drawn, w'.heap.extract w.heap.size w'.heap.size, ?_⟩
  have h1 := h.os
  have h2 := h.tape
  have h3 := h.output
  have h4 := h.drawn
  have h5 := h.size
  have hh : w'.heap = w.heap ++ w'.heap.extract w.heap.size w'.heap.size := by
    apply Array.ext_getElem?
    intro i
    by_cases hi : i < w.heap.size
    · rw [Array.getElem?_append_left hi]; exact h.block i hi (by simp)
    · rw [Array.getElem?_append_right (by omega), Array.getElem?_extract]
      by_cases hi2 : i < w'.heap.size
      · rw [if_pos (by omega)]; congr 1; omega
      · rw [if_neg (by omega), Array.getElem?_eq_none (by omega)]
  cases w; cases w'
  simp only [grow, World.drewN] at *
  subst h1 h2 h3
  simp only [World.mk.injEq, true_and, and_true]
  exact ⟨hh, by omega⟩
def CmpOk {α : Type} (c : α → α → Option Int) (xs : List α) : Prop :=
  (∀ a ∈ xs, ∀ b ∈ xs, ∃ z, c a b = some z) ∧ SWO (ltOf fun (a b : {x // x ∈ xs}) => (c a.1 b.1).getD 0) ∧
    (∀ a ∈ xs, ∀ b ∈ xs, ltOf (fun a b => (c a b).getD 0) a b = false → ltOf (fun a b => (c a b).getD 0) b a = false → a = b)
def ltO {α : Type} (c : α → α → Option Int) (a b : α) : Bool := decide ((c a b).getD 0 < 0)
def cmpOkB {α : Type} [DecidableEq α] (c : α → α → Option Int) (xs : List α) : Bool :=
  xs.all fun a => !ltO c a a && xs.all fun b => (c a b).isSome && (ltO c a b || ltO c b a || decide (a = b)) && xs.all fun d => (!(ltO c a b && ltO c b d) || ltO c a d) && (ltO c a b || ltO c b d || !ltO c a d)
theorem qhU {α : Type} [DecidableEq α] {c : α → α → Option Int} {xs : List α} : cmpOkB c xs = true ↔ CmpOk c xs := by
  unfold cmpOkB CmpOk
  simp only [List.all_eq_true, Bool.and_eq_true, Bool.not_eq_true', Bool.or_eq_true, decide_eq_true_eq, Option.isSome_iff_exists]
  constructor
  · intro h
    refine ⟨fun a ha b hb => ((h a ha).2 b hb).1.1, ⟨fun x => (h x.1 x.2).1, fun x y z h1 h2 => ?_, fun x y z h1 h2 => ?_⟩, fun a ha b hb h1 h2 => ?_⟩
    · rcases (((h x.1 x.2).2 y.1 y.2).2 z.1 z.2).1 with h3 | h3
      · have e1 : ltO c x.1 y.1 = true := h1
        have e2 : ltO c y.1 z.1 = true := h2
        rw [e1, e2] at h3; simp at h3
      · exact h3
    · rcases (((h x.1 x.2).2 y.1 y.2).2 z.1 z.2).2 with (h3 | h3) | h3
      · have e1 : ltO c x.1 y.1 = false := h1
        rw [e1] at h3; simp at h3
      · have e1 : ltO c y.1 z.1 = false := h2
        rw [e1] at h3; simp at h3
      · exact h3
    · rcases ((h a ha).2 b hb).1.2 with (h3 | h3) | h3
      · have e1 : ltO c a b = false := h1
        rw [e1] at h3; simp at h3
      · have e1 : ltO c b a = false := h2
        rw [e1] at h3; simp at h3
      · exact h3
  · rintro ⟨h1, h2, h3⟩ a ha
    refine ⟨h2.irrefl ⟨a, ha⟩, fun b hb => ⟨⟨h1 a ha b hb, ?_⟩, fun d hd => ⟨?_, ?_⟩⟩⟩
    · by_cases e1 : ltO c a b = true
      · exact .inl (.inl e1)
      · by_cases e2 : ltO c b a = true
        · exact .inl (.inr e2)
        · exact .inr (h3 a ha b hb (Bool.eq_false_iff.2 e1) (Bool.eq_false_iff.2 e2))
    · by_cases e1 : ltO c a b = true
      · by_cases e2 : ltO c b d = true
        · exact .inr (h2.trans ⟨a, ha⟩ ⟨b, hb⟩ ⟨d, hd⟩ e1 e2)
        · left; simp [e2]
      · left; simp [e1]
    · by_cases e1 : ltO c a b = true
      · exact .inl (.inl e1)
      · by_cases e2 : ltO c b d = true
        · exact .inl (.inr e2)
        · exact .inr (h2.ntrans ⟨a, ha⟩ ⟨b, hb⟩ ⟨d, hd⟩ (Bool.eq_false_iff.2 e1) (Bool.eq_false_iff.2 e2))
def qc6 {α : Type} (c : α → α → Option Int) (xs : List α) : List α :=
  ((xs.attach).mergeSort fun x y => !(ltOf fun (a b : {x // x ∈ xs}) => (c a.1 b.1).getD 0) y x).map (·.1)
def sortF {α : Type} [DecidableEq α] (c : α → α → Option Int) (xs : List α) : Option (List α) :=
  if cmpOkB c xs = true ∧ xs.length < 4611686018427387904 then some (qc6 c xs) else none
theorem qkf {α : Type} (c : α → α → Option Int) (xs : List α) : (qc6 c xs).length = xs.length := by
  unfold qc6; rw [List.length_map, List.length_mergeSort, List.length_attach]
theorem qi8 {α : Type} (c : α → α → Option Int) (xs : List α) : (qc6 c xs).Perm xs := by
  unfold qc6
  have h := (List.mergeSort_perm xs.attach fun x y => !(ltOf fun (a b : {x // x ∈ xs}) => (c a.1 b.1).getD 0) y x).map (·.1)
  have e : xs.attach.map (·.1) = xs := by simp
  rw [e] at h
  exact h
theorem qk3 {α : Type} {c : α → α → Option Int} {xs : List α} (h : CmpOk c xs) : (qc6 c xs).Pairwise fun a b => ∀ z, c b a = some z → ¬ z < 0 := by
  unfold qc6
  rw [List.pairwise_map]
  have hS := h.2.1
  have := List.pairwise_mergeSort (le := fun x y => !(ltOf fun (a b : {x // x ∈ xs}) => (c a.1 b.1).getD 0) y x)
    (fun a b d h1 h2 => by
      simp only [Bool.not_eq_true'] at *
      exact hS.ntrans d b a h2 h1)
    (fun a b => by
      simp only [Bool.or_eq_true, Bool.not_eq_true']
      by_cases hb : (ltOf fun (a b : {x // x ∈ xs}) => (c a.1 b.1).getD 0) b a = true
      · right
        by_cases ha : (ltOf fun (a b : {x // x ∈ xs}) => (c a.1 b.1).getD 0) a b = true
        · have := hS.trans a b a ha hb; rw [hS.irrefl] at this; simp at this
        · simpa using ha
      · left; simpa using hb) xs.attach
  refine this.imp fun {a b} hab z hz => ?_
  simp only [Bool.not_eq_true', ltOf, hz, Option.getD_some, decide_eq_false_iff_not] at hab
  exact hab
section
variable {P : Program}
theorem qhX {α : Type} [Inhabited α] {enc : α → List Value} {k : Nat} (henc : EncOk enc k) (xs : List α) : (flatK enc k xs.toArray).toList = xs.flatMap enc := by
  have hl : (xs.flatMap enc).length = xs.length * k := qP henc xs
  apply List.ext_getElem?
  intro t
  by_cases ht : t < xs.length * k
  · have hk0 : 0 < k := by
      rcases Nat.eq_zero_or_pos k with h | h
      · subst h; simp at ht
      · exact h
    have hq : t / k < xs.length := Nat.div_lt_of_lt_mul (by rw [Nat.mul_comm]; exact ht)
    have hr : t % k < k := Nat.mod_lt _ hk0
    have e : t / k * k + t % k = t := by rw [Nat.mul_comm]; exact Nat.div_add_mod t k
    have hr' : t % k < (enc xs[t / k]).length := by rw [henc.len]; exact hr
    have h1 := k9 henc xs (t / k) xs[t / k] (t % k) _ (List.getElem?_eq_getElem hq) (List.getElem?_eq_getElem hr')
    rw [e] at h1
    rw [h1, Array.getElem?_toList]
    have h2 := get_flatK enc k xs.toArray t (by simpa using ht)
    rw [Array.getElem?_eq_getElem (by simpa using ht)]
    rw [getElem!_pos _ t (by simpa using ht)] at h2
    rw [h2]
    congr 1
    have e3 : xs.toArray[t / k]! = xs[t / k] := by rw [getElem!_pos _ _ (by simpa using hq)]; simp
    rw [e3, getElem!_pos (enc xs[t / k]) (t % k) hr']
  · rw [List.getElem?_eq_none (by simp; omega), List.getElem?_eq_none (by omega)]
theorem keepsC {BC : List BlkD} {W w' : World} {F : List (World → Prop)} (h1 : ∀ b ∈ BC, b.is W) (h : Hp (muts BC []) W w' BC [] F) : Keeps [] W w' := by
  refine ⟨h.keep.os, h.keep.tape, h.keep.output, h.keep.size, fun k hk _ => ?_, h.keep.drawn⟩
  by_cases hm : k ∈ muts BC []
  · simp only [muts, List.flatMap_nil, List.append_nil] at hm
    obtain ⟨b, hb, rfl⟩ := List.mem_map.1 hm
    rw [show w'.heap[b.g]? = some b.obj from h.blk b hb, show W.heap[b.g]? = some b.obj from h1 b hb]
  · exact h.keep.block k hk hm
theorem qkg {α : Type} [DecidableEq α] {enc : α → List Value} {f g : FuncId} {k : Nat} {e : TypeId} {a : Option Addr} {c : Nat} {xs r : List α} {cb : List Value} {BC : List BlkD} {Φ : List (World → Prop)} {arg : List Value → Value} {cmp : α → α → Option Int} (henc : EncOk enc k) (_hk0 : k ≠ 0)
    (hs : qiG P f g k arg cb.toArray) (hn : ∀ (p : Option Addr) (cap : Nat) (w : World), Calls P f #[.slice p 0 cap, .func (.func g) #[] cb.toArray] w fun e w' => e = .returned (.tuple #[]) ∧ w' = w)
    (hC : ∀ x y z, cmp x y = some z → PureM P g ([arg (enc x), arg (enc y)] ++ cb) BC [] Φ Unit (fun _ => .int .i64 z) (fun _ => BC) (fun _ => [])) (hr : sortF cmp xs = some r) :
    PureM P f [.slice a xs.length c, .func (.func g) #[] cb.toArray] BC [Ro enc e k (.slice a xs.length c) xs] Φ Unit (fun _ => .tuple #[]) (fun _ => BC) (fun _ => [Ro enc e k (.slice a r.length c) r]) := by
  intro w hp
  unfold sortF at hr
  split at hr
  · rename_i hok
    obtain ⟨hok, hlen⟩ := hok
    replace hok := qhU.1 hok
    simp only [Option.some.injEq] at hr
    have hrl : r.length = xs.length := by rw [← hr, qkf]
    have hown := hp.row _ (List.mem_singleton.2 rfl)
    have hp0 : Hp (muts BC [Ro enc e k (.slice a xs.length c) xs]) w w BC [Ro enc e k (.slice a xs.length c) xs] [] := hp.weaken (List.Sublist.refl _) (List.Sublist.refl _) (fun φ h => by simp at h)
    have hnil : xs = [] → Calls P f #[.slice a xs.length c, .func (.func g) #[] cb.toArray] w fun e' w' => ∃ _ : Unit, e' = .returned (.tuple #[]) ∧ Hp (muts BC [Ro enc e k (.slice a xs.length c) xs]) w w' BC [Ro enc e k (.slice a r.length c) r] [] := by
      intro hx
      subst hx
      have hr0 : r = [] := List.length_eq_zero_iff.1 (by simpa using hrl)
      subst hr0
      exact (hn a c w).mono (fun e' w' ⟨h1, h2⟩ => ⟨(), h1, by rw [h2]; exact hp0⟩)
    by_cases hx : xs = []
    · exact hnil hx
    rcases hown.2 with ⟨h5, h6⟩ | ⟨g0, cap, cur, h5, _, hgg, hnc, hcm, hcs, htake⟩
    · have h6' : xs.length = 0 := h6
      exact absurd (List.length_eq_zero_iff.1 h6') hx
    · have h5' : Value.slice a xs.length c = .slice (some ⟨g0, 0, none⟩) xs.length cap := h5
      simp only [Value.slice.injEq, true_and] at h5'
      obtain ⟨rfl, rfl⟩ := h5'
      have hgg' : w.heap[g0]? = some (.cells cur e (0, 0)) := hgg
      have htake' : cur.toList.take (xs.length * k) = xs.flatMap enc := htake
      have hcs' : cur.size = c * k := hcs
      have hnc' : xs.length ≤ c := hnc
      have hmul : xs.length * k ≤ c * k := Nat.mul_le_mul_right _ hnc'
      have hlt := (Array.getElem?_eq_some_iff.1 hgg').1
      obtain ⟨x0, hx0⟩ := List.exists_mem_of_ne_nil xs hx
      haveI : Inhabited {x // x ∈ xs} := ⟨⟨x0, hx0⟩⟩
      have henc' : EncOk (fun x : {x // x ∈ xs} => enc x.1) k := ⟨fun x => henc.len x.1, fun x => henc.ok x.1⟩
      have hfa : xs.attach.flatMap (fun x : {x // x ∈ xs} => enc x.1) = xs.flatMap enc := by
        have : xs.flatMap enc = (xs.attach.map (·.1)).flatMap enc := by simp
        rw [this, List.flatMap_map]
      have hd : xs.attach.toArray.size = xs.length := by simp
      have hdis : ∀ b ∈ BC, b.g ≠ g0 := by
        intro b hb he
        have hnd := hp.nodup
        unfold muts at hnd
        rw [List.nodup_append] at hnd
        refine hnd.2.2 b.g (List.mem_map.2 ⟨b, hb, rfl⟩) g0 ?_ he
        rw [List.flatMap_cons, List.flatMap_nil, List.append_nil]
        exact RowD.blocks_v rfl
      have hmain := hs {x // x ∈ xs} (fun x => enc x.1) henc'.len (fun x v hv => by have := henc.ok x.1; exact List.all_eq_true.1 this v hv) (fun a b => (cmp a.1 b.1).getD 0) hok.2.1 (fun x y h1 h2 => Subtype.ext (hok.2.2 x.1 x.2 y.1 y.2 h1 h2)) g0 c xs.attach.toArray w
        (fun W hW x y => by
          obtain ⟨m, os, A, hA, hW⟩ := hW
          obtain ⟨z, hz⟩ := hok.1 x.1 x.2 y.1 y.2
          have hkW : Keeps [g0] w W := by rw [hW]; exact qeg
          have hpW : Hp (muts BC []) W W BC [] Φ := by
            refine { keep := Keeps.refl _ _, blk := fun b hb => jt (hp.blk b hb) hkW (by simpa using hdis b hb), rows := by simp, nodup := ?_, fresh := fun _ hg => .inl hg, per := fun φ hφ => ?_ }
            · exact hp.nodup.sublist (by unfold muts; exact (List.Sublist.refl _).append (List.nil_sublist _))
            · refine (hp.per φ hφ).step (hkW.wider ?_) fun q hq => .inl ?_
              · intro q hq
                simp only [List.mem_singleton] at hq
                subst hq
                refine List.mem_append.2 (.inr ?_)
                rw [List.flatMap_cons, List.flatMap_nil, List.append_nil]
                exact RowD.blocks_v rfl
              · unfold muts at hq ⊢
                rw [List.flatMap_nil, List.append_nil] at hq
                exact List.mem_append.2 (.inl hq)
          have hcall := hC x.1 y.1 z hz W hpW
          have e1 : ([arg (enc x.1), arg (enc y.1)] ++ cb).toArray = #[arg (enc x.1), arg (enc y.1)] ++ cb.toArray := by simp
          rw [e1] at hcall
          refine hcall.mono fun e' w' ⟨_, h1, h2⟩ => ⟨by rw [h1, hz]; rfl, ?_⟩
          exact (keepsC hpW.blk h2).grown)
        (fun j hj => by
          have hj' : j < xs.length * k := by simpa using hj
          have h1 : (flatK (fun x : {x // x ∈ xs} => enc x.1) k xs.attach.toArray).toList = cur.toList.take (xs.length * k) := by rw [qhX henc' xs.attach, hfa, htake']
          have h2 : cur[j]? = some ((flatK (fun x : {x // x ∈ xs} => enc x.1) k xs.attach.toArray)[j]!) := by
            have h3 := congrArg (fun l => l[j]?) h1
            simp only [List.getElem?_take_of_lt hj', Array.getElem?_toList] at h3
            rw [← h3, getElem!_pos _ j hj, Array.getElem?_eq_getElem hj]
          refine ⟨?_, ?_⟩
          · rw [Nat.zero_add]
            simp [World.cell?, hgg', h2]
          · simp [World.frozen?, hgg'])
        hlt (by rw [hd]; exact hlen)
      rw [hd] at hmain
      refine hmain.mono fun e' w' ⟨h1, q, os, h2⟩ => ⟨(), h1, ?_⟩
      subst h2
      have hflat : (flatK (fun x : {x // x ∈ xs} => enc x.1) k (xs.attach.toArray.toList.mergeSort fun x y => !(ltOf fun (a b : {x // x ∈ xs}) => (cmp a.1 b.1).getD 0) y x).toArray).toList = r.flatMap enc := by
        rw [qhX henc', ← hr]
        unfold qc6
        rw [List.flatMap_map]
      generalize hA : flatK (fun x : {x // x ∈ xs} => enc x.1) k (xs.attach.toArray.toList.mergeSort fun x y => !(ltOf fun (a b : {x // x ∈ xs}) => (cmp a.1 b.1).getD 0) y x).toArray = A at hflat
      have hAs : A.size = xs.length * k := by
        have := congrArg List.length hflat
        rw [qP henc r, hrl] at this
        simpa using this
      refine hp0.swapRow (i := 0) rfl ?_ (.inl ⟨rfl, qeg⟩)
      have hz : ((putRow id (ahead w q) g0 0 A).heap ++ os)[g0]? = some (.cells (putCells id 0 A cur) e (0, 0)) := by
        have h3 := qj8 (w := ahead w q) (A := A) hgg'
        rw [Array.getElem?_append_left ((Array.getElem?_eq_some_iff.1 h3).1)]
        exact h3
      refine ⟨qP henc r, .inr ⟨g0, c, _, rfl, Nat.zero_le _, hz, ?_, hcm, ?_, ?_⟩⟩
      · show r.length ≤ c; rw [hrl]; exact hnc'
      · show _ = c * k; simp [putCells, hcs']
      · show (putCells id 0 A cur).toList.take (r.length * k) = r.flatMap enc
        rw [hrl, ← hAs, qj7 (by omega), hflat]
  · simp at hr
theorem qn1 {α : Type} [DecidableEq α] {c : α → α → Option Int} {xs zs : List α} {lt : α → α → Prop} (hc : ∀ a ∈ xs, ∀ b ∈ xs, ∃ z, c a b = some z ∧ (z < 0 ↔ lt a b))
    (hi : ∀ a, ¬ lt a a) (ht : ∀ a b d, lt a b → lt b d → lt a d) (hto : ∀ a b, lt a b ∨ a = b ∨ lt b a) (hl : xs.length < 4611686018427387904) (hp : zs.Perm xs) (hs : zs.Pairwise fun a b => ¬ lt b a) : sortF c xs = some zs := by
  have hlt : ∀ a ∈ xs, ∀ b ∈ xs, ((c a b).getD 0 < 0 ↔ lt a b) := fun a ha b hb => by
    obtain ⟨z, h1, h2⟩ := hc a ha b hb
    rw [h1]; exact h2
  have hok : CmpOk c xs := by
    refine ⟨fun a ha b hb => by obtain ⟨z, h1, _⟩ := hc a ha b hb; exact ⟨z, h1⟩, ⟨fun x => ?_, fun x y z h1 h2 => ?_, fun x y z h1 h2 => ?_⟩, fun a ha b hb h1 h2 => ?_⟩
    · simp only [ltOf, decide_eq_false_iff_not]; rw [hlt _ x.2 _ x.2]; exact hi _
    · simp only [ltOf, decide_eq_true_eq] at *; rw [hlt _ x.2 _ y.2] at h1; rw [hlt _ y.2 _ z.2] at h2; rw [hlt _ x.2 _ z.2]; exact ht _ _ _ h1 h2
    · simp only [ltOf, decide_eq_false_iff_not] at *; rw [hlt _ x.2 _ y.2] at h1; rw [hlt _ y.2 _ z.2] at h2; rw [hlt _ x.2 _ z.2]
      intro h3
      rcases hto x.1 y.1 with h | h | h
      · exact h1 h
      · rw [h] at h3; exact h2 h3
      · exact h2 (ht _ _ _ h h3)
    · simp only [ltOf, decide_eq_false_iff_not] at *; rw [hlt _ ha _ hb] at h1; rw [hlt _ hb _ ha] at h2
      rcases hto a b with h | h | h
      · exact absurd h h1
      · exact h
      · exact absurd h h2
  unfold sortF
  rw [if_pos ⟨qhU.2 hok, hl⟩]
  congr 1
  have hp2 := qi8 c xs
  refine List.Perm.eq_of_pairwise (le := fun a b => ¬ lt b a) (fun a b _ _ h1 h2 => ?_) ?_ hs (hp2.trans hp.symm)
  · rcases hto a b with h | h | h
    · exact absurd h h2
    · exact h
    · exact absurd h h1
  · refine (qk3 hok).imp_of_mem fun {a b} ha hb h => ?_
    have ha' := hp2.mem_iff.1 ha
    have hb' := hp2.mem_iff.1 hb
    obtain ⟨z, h1, h2⟩ := hc b hb' a ha'
    exact fun h3 => h z h1 (h2.2 h3)
end
end SX
namespace SX
open Go Go.ChangeShapes Go.WideShapes Go.ChangeAt Go.RowKit Go.Joins Go.Deep
variable {H : Type} {enc : TypeId × Value → H} {P : Program}
theorem qma {W : World} {base : Nat} {t : TypeId} {ts : List TypeId} {fs : Array Field} {cs : Array Value} (hs : P.underlying t = some (.struct fs)) (hts : P.cellTypes P.depth t = some ts) (hv : Value.okWide P W .any base t (.agg cs)) :
    ∀ i v u, i < ts.length → cs[i]? = some v → ts[i]? = some u → Cell.okWide P W .any base u v := by
  unfold Value.okWide at hv
  rw [hs] at hv
  obtain ⟨cs', he, _, ts', h1, _, h2⟩ := hv
  cases he
  rw [hts] at h1
  cases h1
  intro i v u hi hc hu
  obtain ⟨u', h3, h4⟩ := h2 i v hc
  rw [Nat.mod_eq_of_lt hi, hu] at h3
  cases h3
  exact h4
theorem qeK {W : World} {base : Nat} {t e : TypeId} {f0 f1 : Field} {k0 k1 : IntKind} {v : Value} {d : DataW H} {p : List MemPlace} (hs : P.underlying t = some (.struct #[f0, f1])) (hone : oneCellFields P #[f0, f1] = true) (hC : P.cellsOf t = 2) (hts : P.cellTypes P.depth t = some [f0.type, f1.type])
    (h0 : P.underlying f0.type = some (.int k0)) (h1 : P.underlying f1.type = some (.slice e)) (he : P.underlying e = some (.int k1)) (hc : P.cellsOf e = 1)
    (hval : Value.okWide P W .any base t v) (h : DataW.Trod enc P W 0 (fun _ => true) true t v d p) :
    ∃ (n : Int) (a : Option Addr) (cap : Nat) (xs : List Int), v = .agg #[.int k0 n, .slice a xs.length cap] ∧ (Lit.int k0 n).wf = true ∧ Nec W [] (Sl (eI k1) 1 (.slice a xs.length cap) xs) ∧ (∀ n ∈ xs, (Lit.int k1 n).wf = true) ∧ xs.length ≤ maxLen := by
  obtain ⟨v0, v1, y0, y1, n, rfl, rfl, rfl, t0, t1⟩ := open_agg2 hs hone hC hval h
  have hcell := qma hs hts hval
  have c0 := hcell 0 v0 f0.type (by simp) rfl rfl
  have c1 := hcell 1 v1 f1.type (by simp) rfl rfl
  have o0 : Value.okWide P W .any base f0.type v0 := by unfold Value.okWide; rw [h0]; exact c0
  have o1 : Value.okWide P W .any base f1.type v1 := by unfold Value.okWide; rw [h1]; exact c1
  have v0c : v0.cells = #[v0] := by
    obtain ⟨x, rfl⟩ := okWide_int h0 o0
    rfl
  have v1c : v1.cells = #[v1] := by
    obtain ⟨a, l, c, rfl⟩ := okWide_slice h1 o1
    rfl
  obtain ⟨x, rfl, _, _, wx⟩ := open_int h0 o0 (d := y0.1) (ps := y0.2) ⟨n, by rw [v0c]; exact t0⟩
  obtain ⟨a, cap, xs, rfl, hn, hw, hm⟩ := qgK h1 he hc o1 (d := y1.1) (p := y1.2) ⟨n, by rw [v1c]; exact t1⟩
  exact ⟨x, a, cap, xs, rfl, wx, hn, hw, hm⟩
end SX
namespace SX
open Go Go.ChangeShapes Go.WideShapes Go.ChangeAt Go.RowKit Go.Joins Go.Deep
variable {H : Type} {enc : TypeId × Value → H} {P : Program}
end SX
namespace SX
open Go Go.ChangeShapes Go.WideShapes Go.ChangeAt Go.RowKit Go.Joins Go.Deep
variable {H : Type} {enc : TypeId × Value → H} {P : Program}
end SX
namespace SX
open Go Go.ChangeShapes Go.WideShapes Go.ChangeAt Go.RowKit Go.Joins Go.Deep
variable {H : Type} {enc : TypeId × Value → H} {P : Program}
end SX
namespace SX
open Go Go.ChangeShapes Go.WideShapes Go.ChangeAt Go.RowKit Go.Joins Go.Deep
variable {H : Type} {enc : TypeId × Value → H} {P : Program}
end SX
namespace SX
open Go
theorem wrap_i64 {n : Int} (h1 : -9223372036854775808 ≤ n) (h2 : n < 9223372036854775808) : IntKind.wrap .i64 n = n := by
  unfold IntKind.wrap
  simp only [IntKind.bits, IntKind.signed]
  simp only [show (2 ^ 64 : Int) = 18446744073709551616 from by decide, show (2 ^ (64 - 1) : Int) = 9223372036854775808 from by decide]
  split
  · rename_i h; simp at h; omega
  · rename_i h; simp at h; omega
theorem kI {n : Int} (h1 : 0 ≤ n) (h2 : n < 18446744073709551616) : IntKind.wrap .u64 n = n := by
  unfold IntKind.wrap
  simp only [IntKind.bits, IntKind.signed]
  simp only [show (2 ^ 64 : Int) = 18446744073709551616 from by decide, Bool.false_and, Bool.false_eq_true, if_false]
  omega
theorem ql5 {n : Int} (h1 : 0 ≤ n) (h2 : n < 256) : IntKind.wrap .u8 n = n := by
  unfold IntKind.wrap
  simp only [IntKind.bits, IntKind.signed]
  simp only [show (2 ^ 8 : Int) = 256 from by decide, Bool.false_and, Bool.false_eq_true, if_false]
  omega
theorem qje (n : Int) : IntKind.wrap .u64 n = n % 18446744073709551616 := by
  unfold IntKind.wrap
  simp only [IntKind.bits, IntKind.signed]
  simp only [show (2 ^ 64 : Int) = 18446744073709551616 from by decide, Bool.false_and, Bool.false_eq_true, if_false]
theorem qgc (n : Int) : IntKind.wrap .u8 n = n % 256 := by
  unfold IntKind.wrap
  simp only [IntKind.bits, IntKind.signed]
  simp only [show (2 ^ 8 : Int) = 256 from by decide, Bool.false_and, Bool.false_eq_true, if_false]
theorem qW {a b : Int} (h1 : -9223372036854775808 ≤ a + b) (h2 : a + b < 9223372036854775808) : iadd .i64 a b = a + b := wrap_i64 h1 h2
theorem jw {a b : Int} (h1 : -9223372036854775808 ≤ a - b) (h2 : a - b < 9223372036854775808) : isub .i64 a b = a - b := wrap_i64 h1 h2
theorem qjV {a b : Int} (h1 : -9223372036854775808 ≤ a * b) (h2 : a * b < 9223372036854775808) : imul .i64 a b = a * b := wrap_i64 h1 h2
theorem qM {α : Type} (xs : List α) (i : Nat) : idx xs (i : Int) = xs[i]? := by simp [idx]
theorem vQ {α : Type} {lim : Nat} {xs ys : List α} (h : xs.length + ys.length ≤ lim) : app lim xs ys = some (xs ++ ys) := by simp [app, h]
theorem qii {x : Int} (h : (Lit.int .u64 x).wf = true) : 0 ≤ x ∧ x < 18446744073709551616 := by
  simp [Lit.wf, IntKind.min, IntKind.max, IntKind.signed, IntKind.bits] at h
  exact ⟨by omega, by omega⟩
theorem qeu {x : Int} (h : (Lit.int .i64 x).wf = true) : -9223372036854775808 ≤ x ∧ x < 9223372036854775808 := by
  simp [Lit.wf, IntKind.min, IntKind.max, IntKind.signed, IntKind.bits] at h
  exact ⟨by omega, by omega⟩
theorem qkn {x : Int} (h : (Lit.int .u8 x).wf = true) : 0 ≤ x ∧ x < 256 := by
  simp [Lit.wf, IntKind.min, IntKind.max, IntKind.signed, IntKind.bits] at h
  exact ⟨by omega, by omega⟩
theorem qev {k : IntKind} {a : Int} {m : Nat} (ha : 0 ≤ a) (ha2 : a < 2 ^ k.bits) (hm : m ≤ k.bits) (hs : k.signed = false) : iand k a (2 ^ m - 1 : Nat) = a % 2 ^ m := by
  unfold iand
  obtain ⟨n, rfl⟩ := Int.eq_ofNat_of_zero_le ha
  have hn : n < 2 ^ k.bits := by exact_mod_cast ha2
  have h1 : (BitVec.ofInt k.bits (n : Int)) = BitVec.ofNat k.bits n := by simp
  have h2 : (BitVec.ofInt k.bits ((2 ^ m - 1 : Nat) : Int)) = BitVec.ofNat k.bits (2 ^ m - 1) := by simp
  rw [h1, h2, BitVec.toNat_and, BitVec.toNat_ofNat, BitVec.toNat_ofNat, Nat.mod_eq_of_lt hn]
  have h3 : 2 ^ m ≤ 2 ^ k.bits := Nat.pow_le_pow_right (by decide) hm
  have h0 : 0 < 2 ^ m := Nat.pow_pos (by decide)
  rw [Nat.mod_eq_of_lt (by omega), Nat.and_two_pow_sub_one_eq_mod]
  have h4 : n % 2 ^ m < 2 ^ k.bits := Nat.lt_of_lt_of_le (Nat.mod_lt _ h0) h3
  unfold IntKind.wrap
  simp only [hs, Bool.false_and, Bool.false_eq_true, if_false]
  rw [Int.emod_eq_of_lt (by omega) (by exact_mod_cast h4)]
  simp
theorem qiY {k : IntKind} {a b : Int} {m : Nat} (ha : 0 ≤ a) (ham : a < 2 ^ m) (hb : 0 ≤ b) (hbm : b % 2 ^ m = 0) (hs : k.signed = false) (hab : a + b < 2 ^ k.bits) : ior k a b = a + b := by
  unfold ior
  obtain ⟨x, rfl⟩ := Int.eq_ofNat_of_zero_le ha
  obtain ⟨y, rfl⟩ := Int.eq_ofNat_of_zero_le hb
  have hx : x < 2 ^ m := by exact_mod_cast ham
  have hy : y % 2 ^ m = 0 := by exact_mod_cast hbm
  have hxy : x + y < 2 ^ k.bits := by exact_mod_cast hab
  have h1 : (BitVec.ofInt k.bits (x : Int)) = BitVec.ofNat k.bits x := by simp
  have h2 : (BitVec.ofInt k.bits (y : Int)) = BitVec.ofNat k.bits y := by simp
  rw [h1, h2, BitVec.toNat_or, BitVec.toNat_ofNat, BitVec.toNat_ofNat, Nat.mod_eq_of_lt (by omega), Nat.mod_eq_of_lt (by omega)]
  have h3 : x ||| y = x + y := by
    have hy2 : y = 2 ^ m * (y / 2 ^ m) := by
      have := Nat.div_add_mod y (2 ^ m); omega
    have h4 := Nat.two_pow_add_eq_or_of_lt hx (y / 2 ^ m)
    rw [← hy2] at h4
    rw [Nat.or_comm, ← h4, Nat.add_comm]
  rw [h3]
  unfold IntKind.wrap
  simp only [hs, Bool.false_and, Bool.false_eq_true, if_false]
  rw [Int.emod_eq_of_lt (by omega) (by exact_mod_cast hxy)]
  simp
theorem qiZ {k : IntKind} {a : Int} {m : Nat} (hm : m ≤ k.bits) : ishr k a (m : Int) = a / 2 ^ m := by
  unfold ishr
  have h : min ((m : Int).toNat) k.bits = m := by simp; omega
  rw [h, Int.fdiv_eq_ediv_of_nonneg _ (by exact_mod_cast Nat.zero_le _)]
theorem qgS {a : Int} {m : Nat} (hm : m ≤ 64) : ishl .u64 a (m : Int) = (a * 2 ^ m) % 18446744073709551616 := by
  unfold ishl
  have h : min ((m : Int).toNat) (IntKind.bits .u64) = m := by simp [IntKind.bits]; omega
  rw [h, qje]
end SX
namespace SX
open Go
class UnF (P : Program) (t : TypeId) (d : outParam TypeDesc) : Prop where
  u : P.underlying t = some d
class EnC (P : Program) (f : FuncId) : Prop where
  e : Enters P f
structure Stp (p : List Nat) (A : Prop) : Prop where
  go : A
structure Stq (p : List Nat) (A : Prop) : Prop where
  go : A
theorem stp0 {A : Prop} (h : A) : Stp [] A := ⟨h⟩
theorem sta (c : Nat) {p : List Nat} {A : Prop} (h : Stq p A) : Stq (c :: p) A := ⟨h.go⟩
theorem stc (c : Nat) {p : List Nat} {A : Prop} (h : Stq p A) : Stp (c :: p) A := ⟨h.go⟩
theorem stk {p : List Nat} {A A' : Prop} (f : A' → A) (h : Stp p A') : Stq p A := ⟨f h.go⟩
theorem stz {A : Prop} (h : A) : Stq [] A := ⟨h⟩
structure Stv (p : List Nat) (B A : Prop) : Prop where
  go : B → A
inductive Gets {α : Type} (R : List α) : List Nat → List α → Prop
  | nil : Gets R [] []
  | cons {is : List Nat} {R' : List α} {r : α} (i : Nat) (h : R[i]? = some r) (hp : Gets R is R') : Gets R (i :: is) (r :: R')
def dn (i j : Nat) : Nat := if i < j then j - 1 else j
theorem qkI {α : Type} {R R' : List α} {is : List Nat} (i : Nat) (h : Gets R is R') (hn : i ∉ is) : Gets (R.eraseIdx i) (is.map (dn i)) R' := by
  induction h with
  | nil => exact .nil
  | @cons is R' r j h _ ih =>
    simp only [List.mem_cons, not_or] at hn
    refine .cons _ ?_ (ih hn.2)
    rw [List.getElem?_eraseIdx]
    unfold dn
    by_cases h1 : i < j
    · rw [if_pos h1, if_neg (by omega), show j - 1 + 1 = j from by omega]; exact h
    · rw [if_neg h1, if_pos (by omega)]; exact h
theorem qi4 {α : Type} : ∀ (R' R : List α) (is : List Nat), Gets R is R' → is.Nodup → Pick R R'
  | [], _, _, _, _ => .nil
  | _ :: R', R, _, .cons (is := is) i h hp, hn => by
    have hn' := List.nodup_cons.1 hn
    refine .cons i h (qi4 R' _ (is.map (dn i)) (qkI i hp hn'.1) ?_)
    have : ∀ (l : List Nat), l.Nodup → i ∉ l → (l.map (dn i)).Nodup := by
      intro l
      induction l with
      | nil => intro _ _; exact List.nodup_nil
      | cons a l ih =>
        intro hl hi
        have hl' := List.nodup_cons.1 hl
        simp only [List.mem_cons, not_or] at hi
        refine List.nodup_cons.2 ⟨fun hm => ?_, ih hl'.2 hi.2⟩
        obtain ⟨b, hb, e⟩ := List.mem_map.1 hm
        have hib : i ≠ b := fun e => hi.2 (e ▸ hb)
        have : a = b := by unfold dn at e; split at e <;> split at e <;> omega
        exact hl'.1 (this ▸ hb)
    exact this is hn'.2 hn'.1
theorem pk {α : Type} {R R' : List α} (is : List Nat) (h : Gets R is R' := by (try dsimp only); repeat (first | exact .nil | refine .cons _ rfl ?_)) (hn : is.Nodup := by decide) : Pick R R' := qi4 R' R is h hn
section
variable {P : Program} {ro : Option Nat} {n : Nat} {D : List Deferred} {M0 : List Nat} {w0 : World} {Q : Exit → Act → World → Prop} {ρ : Type} {p : List Nat}
variable {ops : Array Oper} {rest : List Oper} {l : Env} {B : List BlkD} {R : List RowD} {F : List (World → Prop)} {m : Option ρ} {r : ρ} {ps : List Nat} {Bs : List BlkD} {Fs : List (World → Prop)} {x y c : Code}
variable {t : TypeId} {pos : String} {af : Array Edge} {gd : Option (Nat × Bool)} {d : Nat}
variable {I' : Env}
theorem lka (h : ∀ p ∈ I', look l p.1 = some p.2 := by (try dsimp only); repeat (first | exact qeU | refine qS rfl ?_)) : ∀ p ∈ I', look l p.1 = some p.2 := h
theorem pka {α : Type} {R R' : List α} (h : Pick R R' := by (try dsimp only); repeat (first | exact .nil | refine .cons 0 rfl ?_ | refine .cons 1 rfl ?_ | refine .cons 2 rfl ?_ | refine .cons 3 rfl ?_ | refine .cons 4 rfl ?_ | refine .cons 5 rfl ?_ | refine .cons 6 rfl ?_ | refine .cons 7 rfl ?_ | refine .cons 8 rfl ?_ | refine .cons 9 rfl ?_ | refine .cons 10 rfl ?_ | refine .cons 11 rfl ?_ | refine .cons 12 rfl ?_ | refine .cons 13 rfl ?_ | refine .cons 14 rfl ?_ | refine .cons 15 rfl ?_ | refine .cons 16 rfl ?_ | refine .cons 17 rfl ?_)) : Pick R R' := h
theorem tka {α : Type} {R R' S : List α} (h : Takes R R' S := by repeat (first | exact .nil | apply Takes.cons 0 rfl | apply Takes.cons 1 rfl | apply Takes.cons 2 rfl | apply Takes.cons 3 rfl | apply Takes.cons 4 rfl | apply Takes.cons 5 rfl | apply Takes.cons 6 rfl | apply Takes.cons 7 rfl | apply Takes.cons 8 rfl | apply Takes.cons 9 rfl | apply Takes.cons 10 rfl | apply Takes.cons 11 rfl | apply Takes.cons 12 rfl | apply Takes.cons 13 rfl | apply Takes.cons 14 rfl | apply Takes.cons 15 rfl | apply Takes.cons 16 rfl | apply Takes.cons 17 rfl)) : Takes R R' S := h
theorem fka {F' : List (World → Prop)} (h : ∀ φ ∈ F', φ ∈ F := by (try dsimp only); repeat (first | exact zi | refine qe 0 rfl ?_ | refine qe 1 rfl ?_ | refine qe 2 rfl ?_ | refine qe 3 rfl ?_ | refine qe 4 rfl ?_ | refine qe 5 rfl ?_ | refine qe 6 rfl ?_ | refine qe 7 rfl ?_ | refine qe 8 rfl ?_ | refine qe 9 rfl ?_ | refine qe 10 rfl ?_ | refine qe 11 rfl ?_ | refine qe 12 rfl ?_ | refine qe 13 rfl ?_ | refine qe 14 rfl ?_ | refine qe 15 rfl ?_ | refine qe 16 rfl ?_ | refine qe 17 rfl ?_)) : ∀ φ ∈ F', φ ∈ F := h
theorem araR {φ : World → Prop} {Φ : List (World → Prop)} (j : Nat) {rd : RowD} (h : R[j]? = some rd) (e : Cells rd.v rd.n rd.size rd.cs = φ) (ha : Args R F Φ) : Args R F (φ :: Φ) := e ▸ .consR j rd h ha
theorem armR {φ : World → Prop} {Φ : List (World → Prop)} (j : Nat) {rd : RowD} (h : R[j]? = some rd) (e : Cells rd.v rd.n rd.size rd.cs = φ) (ha : ArgsM R F Φ) : ArgsM R F (φ :: Φ) := e ▸ .consR j rd h ha
theorem ara {Φ : List (World → Prop)} (h : Args R F Φ := by repeat (first | exact .nil | refine .consF 0 rfl ?_ | refine .consF 1 rfl ?_ | refine .consF 2 rfl ?_ | refine .consF 3 rfl ?_ | refine .consF 4 rfl ?_ | refine .consF 5 rfl ?_ | refine .consF 6 rfl ?_ | refine .consF 7 rfl ?_ | refine .consF 8 rfl ?_ | refine .consF 9 rfl ?_ | refine .consF 10 rfl ?_ | refine .consF 11 rfl ?_ | refine .consF 12 rfl ?_ | refine .consF 13 rfl ?_ | refine .consF 14 rfl ?_ | refine .consF 15 rfl ?_ | refine .consF 16 rfl ?_ | refine .consF 17 rfl ?_ | refine araR 0 rfl rfl ?_ | refine araR 1 rfl rfl ?_ | refine araR 2 rfl rfl ?_ | refine araR 3 rfl rfl ?_ | refine araR 4 rfl rfl ?_ | refine araR 5 rfl rfl ?_ | refine araR 6 rfl rfl ?_ | refine araR 7 rfl rfl ?_ | refine araR 8 rfl rfl ?_ | refine araR 9 rfl rfl ?_ | refine araR 10 rfl rfl ?_ | refine araR 11 rfl rfl ?_ | refine araR 12 rfl rfl ?_ | refine araR 13 rfl rfl ?_ | refine araR 14 rfl rfl ?_ | refine araR 15 rfl rfl ?_ | refine araR 16 rfl rfl ?_ | refine araR 17 rfl rfl ?_ | refine .consG 0 rfl (kS fun _ => rfl) ?_ | refine .consG 1 rfl (kS fun _ => rfl) ?_ | refine .consG 2 rfl (kS fun _ => rfl) ?_ | refine .consG 3 rfl (kS fun _ => rfl) ?_ | refine .consG 4 rfl (kS fun _ => rfl) ?_ | refine .consG 5 rfl (kS fun _ => rfl) ?_ | refine .consG 6 rfl (kS fun _ => rfl) ?_ | refine .consG 7 rfl (kS fun _ => rfl) ?_ | refine .consG 8 rfl (kS fun _ => rfl) ?_ | refine .consG 9 rfl (kS fun _ => rfl) ?_)) : Args R F Φ := h
theorem arma {Φ : List (World → Prop)} (h : ArgsM R F Φ := by repeat (first | exact .nil | refine .consF 0 rfl ?_ | refine .consF 1 rfl ?_ | refine .consF 2 rfl ?_ | refine .consF 3 rfl ?_ | refine .consF 4 rfl ?_ | refine .consF 5 rfl ?_ | refine .consF 6 rfl ?_ | refine .consF 7 rfl ?_ | refine .consF 8 rfl ?_ | refine .consF 9 rfl ?_ | refine .consF 10 rfl ?_ | refine .consF 11 rfl ?_ | refine .consF 12 rfl ?_ | refine .consF 13 rfl ?_ | refine .consF 14 rfl ?_ | refine .consF 15 rfl ?_ | refine .consF 16 rfl ?_ | refine .consF 17 rfl ?_ | refine armR 0 rfl rfl ?_ | refine armR 1 rfl rfl ?_ | refine armR 2 rfl rfl ?_ | refine armR 3 rfl rfl ?_ | refine armR 4 rfl rfl ?_ | refine armR 5 rfl rfl ?_ | refine armR 6 rfl rfl ?_ | refine armR 7 rfl rfl ?_ | refine armR 8 rfl rfl ?_ | refine armR 9 rfl rfl ?_ | refine armR 10 rfl rfl ?_ | refine armR 11 rfl rfl ?_ | refine armR 12 rfl rfl ?_ | refine armR 13 rfl rfl ?_ | refine armR 14 rfl rfl ?_ | refine armR 15 rfl rfl ?_ | refine armR 16 rfl rfl ?_ | refine armR 17 rfl rfl ?_ | refine .consG 0 rfl (kS fun _ => rfl) ?_ | refine .consG 1 rfl (kS fun _ => rfl) ?_ | refine .consG 2 rfl (kS fun _ => rfl) ?_ | refine .consG 3 rfl (kS fun _ => rfl) ?_ | refine .consG 4 rfl (kS fun _ => rfl) ?_ | refine .consG 5 rfl (kS fun _ => rfl) ?_ | refine .consG 6 rfl (kS fun _ => rfl) ?_ | refine .consG 7 rfl (kS fun _ => rfl) ?_ | refine .consG 8 rfl (kS fun _ => rfl) ?_ | refine .consG 9 rfl (kS fun _ => rfl) ?_)) : ArgsM R F Φ := h
theorem qg8 {fuel : Nat} {done : Array Bool} {i : Nat} {o : Oper} {V : Value} (ho : ops[i]? = some o) (hd : o.dst = some d) (hw : wants ops l o = some true) (hy : Yv P l [] [] o V)
    (h : Stp p (SXB P ro ps n D M0 w0 (yF Q) ops Bs Fs fuel (done.setIfInBounds i true) ((d, V) :: l) B R F m r)) (hk : okP ops ps done i d n = true := by kernel_rfl) : Stq (i :: p) (SXB P ro ps n D M0 w0 (yF Q) ops Bs Fs (fuel + 1) done l B R F m r) := ⟨qj i V ho hd hw hy h.go hk⟩
theorem qkh {fuel : Nat} {done : Array Bool} {i : Nat} {o : Oper} {V : Value} (ho : ops[i]? = some o) (hd : o.dst = some d) (hw : wants ops l o = some true) (hy : Yv P l Bs [] o V)
    (h : Stp p (SXB P ro ps n D M0 w0 (yF Q) ops Bs Fs fuel (done.setIfInBounds i true) ((d, V) :: l) B R F m r)) (hk : okP ops ps done i d n = true := by kernel_rfl) : Stq (i :: p) (SXB P ro ps n D M0 w0 (yF Q) ops Bs Fs (fuel + 1) done l B R F m r) := ⟨zJ i V ho hd hw hy h.go hk⟩
theorem qpl {fuel : Nat} {done : Array Bool} {i : Nat} {o : Oper} (ho : ops[i]? = some o) (hd : o.dst = some d) (hw : wants ops l o = some false)
    (h : Stp p (SXB P ro ps n D M0 w0 (yF Q) ops Bs Fs fuel (done.setIfInBounds i true) ((d, undef) :: l) B R F m r)) (hk : okP ops ps done i d n = true := by kernel_rfl) : Stq (i :: p) (SXB P ro ps n D M0 w0 (yF Q) ops Bs Fs (fuel + 1) done l B R F m r) := ⟨qn6 i ho hd hw h.go hk⟩
theorem qpm {fuel : Nat} {done done' : Array Bool} {i : Nat} {o : Oper} (ho : ops[i]? = some o) (hr : Region.ready .any ops done = [i]) (hdone : done.setIfInBounds i true = done')
    (h : Stp p (SXO P ro n D M0 w0 (Exit.then (fun a w => Sh ps Bs Fs done' w ∧ anyK ro P ops Q (Sh ps Bs Fs) fuel done' a w) Q) ops [o] l B R F m r)) : Stq (i :: p) (SXB P ro ps n D M0 w0 Q ops Bs Fs (fuel + 1) done l B R F m r) := ⟨yH i ho hr hdone h.go⟩
theorem qm {S : Type} (K : S → Env × List BlkD × List RowD × List (World → Prop) × Option ρ)
    (hx : SXC P ro n D M0 w0 (Exit.then (fun a w => ∃ s, (K s).2.2.2.2 = some r ∧ Fr n D a (K s).1 ∧ Hp M0 w0 w (K s).2.1 (K s).2.2.1 (K s).2.2.2.1) Q) x l B R F m r)
    (hy : ∀ s, SXC P ro n D M0 w0 Q y (K s).1 (K s).2.1 (K s).2.2.1 (K s).2.2.2.1 (K s).2.2.2.2 r) : SXC P ro n D M0 w0 Q (.seq x y) l B R F m r := qcV _ _ _ _ _ hx hy
theorem qy {S : Type} (k : Nat) (K : S → Env × List BlkD × List RowD × List (World → Prop) × Option ρ)
    (hx : SXO P ro n D M0 w0 (Exit.then (fun a w => ∃ s, (K s).2.2.2.2 = some r ∧ Fr n D a (K s).1 ∧ Hp M0 w0 w (K s).2.1 (K s).2.2.1 (K s).2.2.2.1) Q) ops (rest.take k) l B R F m r)
    (hy : ∀ s, SXO P ro n D M0 w0 Q ops (rest.drop k) (K s).1 (K s).2.1 (K s).2.2.1 (K s).2.2.2.1 (K s).2.2.2.2 r) : SXO P ro n D M0 w0 Q ops rest l B R F m r := qkk k _ _ _ _ _ hx hy
theorem qx {S : Type} (K : S → Env × List BlkD × List RowD × List (World → Prop)) (ml : Nat → S → Option ρ) (s0 : S) (k0 : Nat)
    (hround : ∀ k s, SXC P ro n D M0 w0 (Exit.then (fun a w => ∃ k' < k + 1, ∃ s, ml k' s = some r ∧ Fr n D a (K s).1 ∧ Hp M0 w0 w (K s).2.1 (K s).2.2.1 (K s).2.2.2) Q) c (K s).1 (K s).2.1 (K s).2.2.1 (K s).2.2.2 (ml (k + 1) s) r)
    (hI : ∀ p ∈ (K s0).1, look l p.1 = some p.2 := by exact lka)
    (hB : Pick B (K s0).2.1 := by exact pka)
    (hR : Pick R (K s0).2.2.1 := by exact pka)
    (hF : ∀ φ ∈ (K s0).2.2.2, φ ∈ F := by exact fka)
    (hz : ∀ s, ml 0 s = none := by exact fun _ => rfl) :
    SXC P ro n D M0 w0 Q (.loop c) l B R F (ml k0 s0) r := qcE _ _ _ _ ml s0 k0 hround hI hB hR hF hz
theorem qc {S : Type} {I : S → Env} {IB : S → List BlkD} {IR : S → List RowD} {IF : S → List (World → Prop)} {mj : S → Option ρ} {K : Exit → Act → World → Prop} (s : S)
    (hI : ∀ p ∈ I s, look l p.1 = some p.2 := by exact lka)
    (hB : Pick B (IB s) := by exact pka)
    (hR : Pick R (IR s) := by exact pka)
    (hF : ∀ φ ∈ IF s, φ ∈ F := by exact fka) :
    SXQ n D M0 w0 (Exit.then (fun a w => ∃ s, mj s = some r ∧ Fr n D a (I s) ∧ Hp M0 w0 w (IB s) (IR s) (IF s)) K) .normal l B R F (mj s) r := za s hI hB hR hF
theorem qs {S : Type} {I : S → Env} {IB : S → List BlkD} {IR : S → List RowD} {IF : S → List (World → Prop)} {ml : Nat → S → Option ρ} {K : Exit → Act → World → Prop} {k : Nat} (s : S)
    (hI : ∀ p ∈ I s, look l p.1 = some p.2 := by exact lka)
    (hB : Pick B (IB s) := by exact pka)
    (hR : Pick R (IR s) := by exact pka)
    (hF : ∀ φ ∈ IF s, φ ∈ F := by exact fka) :
    SXQ n D M0 w0 (Exit.then (fun a w => ∃ k' < k + 1, ∃ s, ml k' s = some r ∧ Fr n D a (I s) ∧ Hp M0 w0 w (IB s) (IR s) (IF s)) K) .normal l B R F (ml k s) r := jz s hI hB hR hF
theorem qh {α γ : Type} {mg : Option α} {k : α → Option ρ} {f : FuncId} {xs : Array Operand} {tys : Array TypeId} {vs : List Value} {Φ : List (World → Prop)} {V : α → γ → Value} {RW : α → γ → List RowD} {PH : α → γ → List (World → Prop)}
    (hC : ∀ {y}, mg = some y → Pure P f vs Φ γ (V y) (RW y) (PH y))
    (h : ∀ y, mg = some y → ∀ g, SXO P ro n D M0 w0 Q ops rest ((d, V y g) :: l) B (RW y g ++ R) (PH y g ++ F) (k y) r)
    (he : Enters P f := by exact EnC.e) (hw : wants ops l ⟨some d, .call ⟨.value (.func f), xs, tys⟩, t, pos, af, gd⟩ = some true := by rfl) (hx : evArgs l xs.toList = some vs := by rfl) (hd : Nat.blt d n = true := by rfl)
    (ha : Args R F Φ := by exact ara) :
    SXO P ro n D M0 w0 Q ops (⟨some d, .call ⟨.value (.func f), xs, tys⟩, t, pos, af, gd⟩ :: rest) l B R F (mg.bind k) r := kx he hw hx hd (fun _ => hC) ha h
theorem kU {α γ : Type} {mg : Option α} {k : α → Option ρ} {f : FuncId} {xs : Array Operand} {tys : Array TypeId} {vs : List Value} {Φ : List (World → Prop)} {V : α → γ → Value} {B0 BS : List BlkD} {R0 RS : List RowD} {B1 : α → γ → List BlkD} {R1 : α → γ → List RowD}
    (hC : ∀ {y}, mg = some y → PureM P f vs B0 R0 Φ γ (V y) (B1 y) (R1 y))
    (h : ∀ y, mg = some y → ∀ g, SXO P ro n D M0 w0 Q ops rest ((d, V y g) :: l) (B1 y g ++ BS) (R1 y g ++ RS) F (k y) r)
    (he : Enters P f := by exact EnC.e) (hw : wants ops l ⟨some d, .call ⟨.value (.func f), xs, tys⟩, t, pos, af, gd⟩ = some true := by rfl) (hx : evArgs l xs.toList = some vs := by rfl) (hd : Nat.blt d n = true := by rfl)
    (hB : Takes B B0 BS := by exact tka)
    (hR : Takes R R0 RS := by exact tka)
    (ha : ArgsM RS F Φ := by exact arma) :
    SXO P ro n D M0 w0 Q ops (⟨some d, .call ⟨.value (.func f), xs, tys⟩, t, pos, af, gd⟩ :: rest) l B R F (mg.bind k) r := qa0 he hw hx hd (fun _ => hC) hB hR ha h
theorem qn7 (h : SXC P ro n D M0 w0 Q c [] B R F m r) : SXC P ro n D M0 w0 Q c (([] : List Value).zipIdx.map fun p => (p.2, p.1)) B R F m r := h
theorem qn8 {a0 : Value} (h : SXC P ro n D M0 w0 Q c [(0, a0)] B R F m r) : SXC P ro n D M0 w0 Q c ([a0].zipIdx.map fun p => (p.2, p.1)) B R F m r := h
theorem qn9 {a0 a1 : Value} (h : SXC P ro n D M0 w0 Q c [(0, a0), (1, a1)] B R F m r) : SXC P ro n D M0 w0 Q c ([a0, a1].zipIdx.map fun p => (p.2, p.1)) B R F m r := h
theorem qoa {a0 a1 a2 : Value} (h : SXC P ro n D M0 w0 Q c [(0, a0), (1, a1), (2, a2)] B R F m r) : SXC P ro n D M0 w0 Q c ([a0, a1, a2].zipIdx.map fun p => (p.2, p.1)) B R F m r := h
theorem qob {a0 a1 a2 a3 : Value} (h : SXC P ro n D M0 w0 Q c [(0, a0), (1, a1), (2, a2), (3, a3)] B R F m r) : SXC P ro n D M0 w0 Q c ([a0, a1, a2, a3].zipIdx.map fun p => (p.2, p.1)) B R F m r := h
theorem qoc {a0 a1 a2 a3 a4 a5 : Value} (h : SXC P ro n D M0 w0 Q c [(0, a0), (1, a1), (2, a2), (3, a3), (4, a4), (5, a5)] B R F m r) : SXC P ro n D M0 w0 Q c ([a0, a1, a2, a3, a4, a5].zipIdx.map fun p => (p.2, p.1)) B R F m r := h
theorem zC {fn : Func} {γ : Type} {V : γ → Value} {RW : γ → List RowD} {w : World} {x : ρ} {e : Exit} (g : γ) {v : Value}
    (hres : ∀ a w', Fr n [] a l → Hp [] w w' B R F → (results fn a.tmps).run P w' = .ok v w' := by first | exact res1 rfl rfl | exact res2 rfl rfl rfl | exact res3 rfl rfl rfl rfl | exact res0 rfl)
    (hR : x = r → Pick R (RW g) := by intro h; subst h; exact pka)
    (hv : x = r → v = V g := by intro h; subst h; rfl) (he : e = .ret ∨ e = .normal := by first | exact .inl rfl | exact .inr rfl) :
    SXQ n [] [] w (bodyPost P fn fun e w' => ∃ g : γ, e = .returned (V g) ∧ Ret w w' (RW g) []) e l B R F (some x) r := qI g hres hR hv he
theorem vN {fn : Func} {γ : Type} {V : γ → Value} {B1 : γ → List BlkD} {R1 : γ → List RowD} {w : World} {x : ρ} {e : Exit} (g : γ) {v : Value}
    (hres : ∀ a w', Fr n [] a l → Hp M0 w w' B R F → (results fn a.tmps).run P w' = .ok v w' := by first | exact res1 rfl rfl | exact res2 rfl rfl rfl | exact res3 rfl rfl rfl rfl | exact res0 rfl)
    (hB : x = r → Pick B (B1 g) := by intro h; subst h; exact pka)
    (hR : x = r → Pick R (R1 g) := by intro h; subst h; exact pka)
    (hv : x = r → v = V g := by intro h; subst h; rfl) (he : e = .ret ∨ e = .normal := by first | exact .inl rfl | exact .inr rfl) :
    SXQ n [] M0 w (bodyPost P fn fun e w' => ∃ g : γ, e = .returned (V g) ∧ Hp M0 w w' (B1 g) (R1 g) []) e l B R F (some x) r := qcF g hres hB hR hv he
theorem qmM {I : Env} {K : Exit → Act → World → Prop} (hI : ∀ p ∈ I, look l p.1 = some p.2 := by exact lka) :
    SXQ n D M0 w0 (Exit.then (fun a w => ∃ _s : Unit, m = some r ∧ Fr n D a I ∧ Hp M0 w0 w B R F) K) .normal l B R F m r := qoz hI
theorem qno {α : Type} {R : List α} {is ks : List Nat} {A C : List α} (h : Gets R is A) (h2 : Gets R ks C) : Gets R (is ++ ks) (A ++ C) := by
  induction h with
  | nil => exact h2
  | cons i h _ ih => exact .cons i h ih
theorem qnp {α : Type} {R A : List α} {is : List Nat} (h : Gets R is A) : A.length = is.length := by
  induction h with
  | nil => rfl
  | cons i h _ ih => simp [ih]
theorem qmh {α : Type} {R S : List α} {is : List Nat} (h : Gets R is S) (hn : is.Nodup) (hl : is.length = R.length) : R.Perm S := by
  obtain ⟨T, hT⟩ := (qi4 S R is h hn).perm
  have h1 := hT.length_eq
  rw [List.length_append, qnp h] at h1
  have : T = [] := List.eq_nil_of_length_eq_zero (by omega)
  rw [this, List.append_nil] at hT
  exact hT
theorem qig {α γ : Type} {enc : α × γ → List Value} {rin : α × γ → List RowF} {e size i : Nat} {v : Value} {S : List RowD} {is ks : List Nat} (xs : List α) (gs : List γ) (hR : R[i]? = some (Ro enc e size v (xs.zip gs))) (hl : gs.length = xs.length)
    (hi : Gets (R.eraseIdx i) is (((xs.zip gs).flatMap rin).map RowF.row)) (hs : Gets (R.eraseIdx i) ks S) (h : SXO P ro n D M0 w0 Q ops rest l B (RoN enc rin e size v xs gs [] :: S) F m r)
    (hn : (is ++ ks).Nodup := by decide) (hlen : (is ++ ks).length = (R.eraseIdx i).length := by rfl) : SXO P ro n D M0 w0 Q ops rest l B R F m r := by
  have hp := qmh (qno hi hs) hn hlen
  have hT : ∀ (A C : List RowD), Takes (A ++ C) A C := by
    intro A
    induction A with
    | nil => intro C; exact .nil
    | cons a A ih => intro C; exact .cons 0 rfl (ih C)
  refine fun hm a w hf hp0 => h hm a w hf ?_
  have h1 := hp0.perm (List.Perm.refl _) ((jv hR).trans (hp.cons _))
  exact h1.nestOf (i := 0) rfl hl (hT _ _)
end
end SX
