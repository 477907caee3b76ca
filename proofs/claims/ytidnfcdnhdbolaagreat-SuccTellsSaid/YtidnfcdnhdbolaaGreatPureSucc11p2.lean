/- Plain facts of what the functions of this seat compute, part 2. -/
import Derived.Test.YtidnfcdnhdbolaaGreatPureSucc11
import Derived.KernelRfl
import Derived.Lib.SlicesCompact
namespace Go.Proofs.YtidnfcdnhdbolaaGreat
open Go SX
variable {F : Nat} {rec68 : (List (Int × Int) × List Int × Int) → Option (List (Int × Int) × List Int)} {l : List Int} {least : Int} {o : List (Int × Int)} {rest : List Int} {i : Int}
theorem qmG {F : Nat} (hF : 20000 ≤ F) {R : List (Int × Int)} {least : Int} (hm : R.length ≤ 300) (hR : ∀ r ∈ R, RunOk r ∧ least ≤ r.2) (hle : 0 ≤ least) : ∀ (k i : Nat) (a : Int) (l : List Int) (f : Bool) (S : List Int), R.length < k + i → i ≤ R.length → Rep l f S → Nd a → (∃ q, Sep q (R.drop i) ∧ (0 < i → a + 1 ≤ q)) →
    Wr (kd F least R k (a, (i : Int), (l.length : Int), pk l, f)) (S ++ encRs least (decide (0 < i)) a (R.drop i))
  | 0, _, _, _, _, _, _, _, _, _, _ => by omega
  | k + 1, i, a, l, f, S, h, hi, hr, ha, hs => by
    show Wr (vr F least R (kd F least R k) a (i : Int) (l.length : Int) (pk l) f) _
    unfold vr
    by_cases hlt : i < R.length
    · obtain ⟨hro, hrl⟩ := hR R[i] (List.getElem_mem hlt)
      unfold RunOk at hro
      unfold Nd at ha
      rw [if_pos (by simp; omega), zn, List.getElem?_eq_getElem hlt, List.drop_eq_getElem_cons hlt]
      simp only [Option.bind_some]
      have hj : ∀ {l' : List Int} {f' : Bool} {S' : List Int}, Rep l' f' S' → S' = S ++ ga (if decide (0 < i) = true then R[i].1 - a - 2 else foldOf (R[i].1 - a)).toNat → Sep (R[i].1 + R[i].2) (R.drop (i + 1)) →
          Wr (yw F (kd F least R k) least (i : Int) R[i] (l'.length : Int) (pk l') f') (S ++ encRs least (decide (0 < i)) a (R[i] :: R.drop (i + 1))) := by
        intro l' f' S' hr' hS hsep
        unfold yw
        rw [zo (by omega) (by omega)]
        obtain ⟨l2, f2, e, h2⟩ := qcz hF hr' (n := R[i].2 - least) (by omega) (by omega)
        rw [e]
        simp only [Option.bind_some]
        rw [qh3 (by omega) (by omega), zg (by omega)]
        refine qgU (qmG hF hm hR hle k (i + 1) (R[i].1 + R[i].2 - 1) l2 f2 _ (by omega) (by omega) h2 (by unfold Nd; omega) ⟨_, hsep, fun _ => by omega⟩) ?_
        rw [hS]; simp [encRs, List.append_assoc]
      obtain ⟨q, hsp, hq⟩ := hs
      rw [List.drop_eq_getElem_cons hlt] at hsp
      obtain ⟨h1, h2, h3⟩ := hsp
      by_cases h0 : 0 < i
      · have hq' := hq h0
        have e3 : isub .i64 R[i].1 a = R[i].1 - a := zo (by omega) (by omega)
        rw [if_neg (by simp; omega), e3, zo (by omega) (by omega)]
        obtain ⟨l', f', e, h'⟩ := qcz hF hr (n := R[i].1 - a - 2) (by omega) (by omega)
        rw [e]
        simp only [Option.bind_some]
        exact hj h' (by rw [if_pos (by simpa using h0)]) h3
      · obtain rfl : i = 0 := by omega
        have hf := qeA (x := R[0].1 - a) (by omega)
        rw [if_pos (by simp), zo (by omega) (by omega), qmK F (by omega) (by omega)]
        simp only [Option.bind_some]
        rw [show iconv .i64 (foldOf (R[0].1 - a)) = foldOf (R[0].1 - a) from kn (by omega) (by omega)]
        obtain ⟨l', f', e, h'⟩ := qcz hF hr (n := foldOf (R[0].1 - a)) (by omega) (by omega)
        rw [e]
        simp only [Option.bind_some]
        exact hj h' (by rw [if_neg (by simp)]) h3
    · rw [if_neg (by simp; omega), List.drop_eq_nil_of_le (by omega)]
      exact ⟨l, f, rfl, by simpa [encRs] using hr⟩
theorem qn7 {F : Nat} (hF : 20000 ≤ F) {R : List (Int × Int)} {least node q : Int} {l S : List Int} {f : Bool} (hm : R.length ≤ 300) (hR : ∀ r ∈ R, RunOk r ∧ least ≤ r.2) (hle : 0 ≤ least) (hr : Rep l f S) (hn : Nd node) (hs : Sep q R) :
    Wr (jF F (l.length : Int) (pk l) f node least R) (S ++ encR least node R) := by
  unfold jF
  obtain ⟨l', f', e, h'⟩ := qcz hF hr (n := (R.length : Int)) (by omega) (by omega)
  rw [e]
  simp only [Option.bind_some]
  refine qgU (qmG hF hm hR hle F 0 node l' f' _ (by omega) (by omega) h' hn ⟨q, by simpa using hs, by omega⟩) ?_
  simp [encR]
theorem qgg : ∀ {bs : List Int} {f : Bool}, okB f bs = true → ∀ n ∈ bs, n ≤ bsum bs
  | [], _, _, n, h => by simp at h
  | x :: bs, f, h, n, hn => by
    rw [qew] at h
    simp only [Bool.and_eq_true] at h
    have h0 := qhW h.2
    have hx : 0 ≤ x := by simpa using h.1.1
    have hb : bsum (x :: bs) = x + bsum bs := rfl
    rcases List.mem_cons.1 hn with rfl | hn
    · omega
    · have := qgg h.2 n hn; omega
def encO (rest : List Int) (least : Int) : List (Int × Int) := if 0 < least then spO least (rs rest) else []
def encS (rest : List Int) (least : Int) : List Int := if 0 < least then flat (spS least (rs rest)) else rest
def encL (node : Int) (rest : List Int) (least : Int) (k : Nat) : List Int :=
  if rest = [] then [] else (if 0 < least then encR least node (encO rest least) else []) ++ zes k (gp false node (encS rest least))
def rstO (l fr : List Int) (back : Int) : List Int := if 0 < back then rst fr l else l
def enc (node : Int) (l fr : List Int) (back least : Int) (k : Nat) : List Int :=
  ga l.length ++ if l = [] then [] else (if 0 < back then encB (tbs fr l) else []) ++ encL node (rstO l fr back) least k
theorem qpO {F : Nat} (hF : 200000 ≤ F) {a l : List Int} (ha : gkc a = 0) (hl : gkc l = 0) : qd0 F a l = some (tbs a l, rst a l) := by
  obtain ⟨h1, h2⟩ := kF.1 ha
  obtain ⟨h3, h4⟩ := kF.1 hl
  have := qme hF (ja h2).1 (ja h4).1 h1 h3 F 0 [] true 0 (by omega) (by omega) (by simp) (by omega)
  rw [List.drop_zero, List.nil_append] at this
  unfold qd0
  rw [show ((0 : Nat) : Int) = 0 from rfl] at this
  rw [this]
  rfl
theorem qkv {F k : Nat} (hF : 20000 ≤ F) (h1 : 1 ≤ k) (h2 : k ≤ 16) {l S rest : List Int} {f : Bool} {node q : Int} (hr : Rep l f S) (hn : Nd node) (hm : rest.length ≤ 300) (hs : Ris q rest) :
    Wr (yp F node (k : Int) rest (l.length : Int) (pk l) f) (S ++ zes k (gp false node rest)) := by
  unfold yp
  have h40 : L40 (gp false node rest) := fun x hx => by have := qkX hn hs (by simp) x hx; omega
  have hp := qpG (F := F) (l := []) hF h1 h2 h40 (by rw [qhH]; omega) (by intro x hx; simp at hx) (by simp)
  simp only [List.nil_append, List.length_nil] at hp
  rw [qpf hF hm hn hs]
  simp only [Option.bind_some]
  rw [show qbR F 0 ([] : List Int) (gp false node rest) (k : Int) = _ from hp]
  simp only [Option.bind_some]
  unfold yu
  by_cases hb : (zes k (gp false node rest)).length ≤ 8192
  · rw [if_pos hb]
    simp only [Bool.not_true, Bool.or_false]
    obtain ⟨l', f', e, h'⟩ := qkm hF hr (qmu k _) hb
    rw [e]
    exact ⟨l', f', rfl, h'⟩
  · rw [if_neg hb]
    simp only [Bool.not_false, Bool.or_true]
    have hr' := qoh hr (k := zes k (gp false node rest)) (by simp; omega)
    obtain ⟨l', f', e, h'⟩ := qkm hF hr' (k := []) (by intro x hx; simp at hx) (by simp)
    have e' : yO F (l.length : Int) (pk l) true 0 [] = some ((l'.length : Int), pk l', f') := e
    rw [e']
    exact ⟨l', f', rfl, by simpa using h'⟩
theorem qi6 {F k : Nat} (hF : 2000000 ≤ F) (h1 : 1 ≤ k) (h2 : k ≤ 16) {l S rest : List Int} {f : Bool} {node least : Int} (hr : Rep l f S) (hn : Nd node) (hg : gkc rest = 0) (_hle : least = 0 ∨ 2 ≤ least ∧ least ≤ 300) :
    Wr (yv F node least (k : Int) rest (l.length : Int) (pk l) f) (S ++ encL node rest least k) := by
  obtain ⟨hm, hs⟩ := kF.1 hg
  unfold yv encL encO encS
  by_cases h0 : rest = []
  · subst h0
    exact ⟨l, f, rfl, by simpa using hr⟩
  · have hlen : rest.length ≠ 0 := by simpa using h0
    rw [if_neg (by simp; exact h0), if_neg h0]
    by_cases hl : 0 < least
    · rw [if_pos (by simpa using hl), if_pos hl, if_pos hl, if_pos hl, qly hF hm hs]
      simp only [Option.bind_some]
      obtain ⟨s1, s2⟩ := qmX (least := least) hm hs
      obtain ⟨r1, r2⟩ := qkL hm hs
      obtain ⟨l', f', e, h'⟩ := qn7 (F := F) (R := spO least (rs rest)) (least := least) (node := node) (q := -1) (by omega) s1 (fun r hr => ⟨r2 r (List.mem_filter.1 hr).1, by simpa using (List.mem_filter.1 hr).2⟩) (by omega) hr hn (qbS _ r1)
      rw [e]
      simp only [Option.bind_some]
      refine qgU (qkv (by omega) h1 h2 h' hn s2 (qhy hs _)) ?_
      rw [List.append_assoc]
    · rw [if_neg (by simpa using hl), if_neg hl, if_neg hl, List.nil_append]
      exact qkv (by omega) h1 h2 hr hn hm hs
theorem qhq {a l : List Int} (h : gkc l = 0) : gkc (rst a l) = 0 := qpx h List.filter_sublist
theorem qlt {F k : Nat} (hF : 2000000 ≤ F) (h1 : 1 ≤ k) (h2 : k ≤ 16) {x fr : List Int} {node back least : Int} (hn : Nd node) (hg : gkc x = 0) (hfr : 0 < back → gkc fr = 0) (hle : least = 0 ∨ 2 ≤ least ∧ least ≤ 300) :
    Wr (vq F 0 [] false node x fr back least (k : Int)) (enc node x fr back least k) := by
  obtain ⟨hm, hs⟩ := kF.1 hg
  unfold vq enc rstO
  obtain ⟨l, f, e, hr⟩ := qcz (F := F) (by omega) qp3 (n := (x.length : Int)) (by omega) (by omega)
  rw [show zO F 0 ([] : List Int) false (x.length : Int) = _ from e]
  simp only [Option.bind_some, List.nil_append, Int.toNat_natCast] at hr ⊢
  by_cases h0 : x = []
  · subst h0
    rw [if_pos (by simp), if_pos rfl]
    exact ⟨l, f, rfl, by simpa using hr⟩
  · rw [if_neg (by simpa using h0), if_neg h0]
    by_cases hb : 0 < back
    · have hfg := hfr hb
      have hfl := (kF.1 hfg).1
      rw [if_pos (by simpa using hb), if_pos hb, if_pos hb, qpO (by omega) hfg hg]
      simp only [Option.bind_some]
      have htl := qgo fr x
      have hok : okB true (tbs fr x) = true := qgb _ _ _ _ (by omega) (Or.inl rfl)
      have hsum : bsum (tbs fr x) ≤ 0 + (fr.map (hasB x)).length := qeV _ _ _ (by omega)
      rw [List.length_map] at hsum
      have hbd : ∀ n ∈ tbs fr x, n ≤ 1000000 := fun n hnm => by
        have := qgg hok n hnm
        omega
      obtain ⟨l', f', e', h'⟩ := ql6 (F := F) (bs := tbs fr x) (by omega) (by omega) hr hok hbd
      rw [e']
      simp only [Option.bind_some]
      refine qgU (qi6 hF h1 h2 h' hn (qhq hg) hle) ?_
      rw [List.append_assoc]
    · rw [if_neg (by simpa using hb), if_neg hb, if_neg hb, List.nil_append]
      exact qi6 hF h1 h2 hr hn hg hle
def rgam (l : List Int) (p : Nat) (most : Int) : Option (Int × Nat) := if (fg l p).2.2 = 0 ∧ (fg l p).1 ≤ most then some ((fg l p).1, (fg l p).2.1.toNat) else none
def Rd {α : Type} (l : List Int) (m : Option ((α × Int × Int) ⊕ (Int × Int))) (o : Option (α × Nat)) : Prop :=
  match o with
  | none => ∃ z, m = some (.inr z)
  | some x => m = some (.inl (x.1, (l.length : Int), (x.2 : Int)))
theorem jX {l : List Int} {p : Nat} {most : Int} {x : Int × Nat} (h : rgam l p most = some x) : 0 ≤ x.1 ∧ x.1 ≤ most ∧ x.1 ≤ 1099511627776 ∧ x.2 ≤ l.length := by
  unfold rgam at h
  split at h
  · rename_i hc
    rcases qnd (l := l) (a := p) with h1 | ⟨n, q, h1, h2, h3⟩
    · exact absurd hc.1 h1
    · simp only [Option.some.injEq] at h
      subst h
      rw [h1] at hc ⊢
      simp only at hc ⊢
      omega
  · simp at h
theorem qqy {F : Nat} : yo F true = some (.inl ()) := rfl
theorem qoO {F : Nat} : yo F false = some (.inr ()) := rfl
theorem qfG {F : Nat} (hF : 20000 ≤ F) {l : List Int} (hl : Bit l) (hm : l.length ≤ 8192) {p : Nat} (hp : p ≤ l.length) {most : Int} (h0 : 0 ≤ most) (h1 : most ≤ 1000000000) : Rd l (kf F (l.length : Int) (pk l) (p : Int) most) (rgam l p most) := by
  obtain ⟨mo, rfl⟩ := Int.eq_ofNat_of_zero_le h0
  unfold kf rgam
  rw [qjQ hF hl hm hp]
  simp only [Option.bind_some]
  rw [yK (by omega)]
  rcases qnd (l := l) (a := p) with h2 | ⟨n, q, h2, h3, h4⟩
  · rw [if_neg (fun h => h2 h.1), show ((fg l p).2.2 == 0 && decide ((fg l p).1 ≤ (mo : Int))) = false from by simp [h2], qoO]
    exact ⟨_, rfl⟩
  · rw [h2]
    simp only [true_and, beq_self_eq_true, Bool.true_and]
    by_cases hc : (n : Int) ≤ mo
    · rw [if_pos hc, decide_eq_true hc, qqy]
      show _ = _
      simp only [lbnd, Option.bind_some, Int.toNat_natCast]
      rw [vW (by omega)]
    · rw [if_neg hc, decide_eq_false hc, qoO]
      exact ⟨_, rfl⟩
theorem qdT {α β : Type} {l : List Int} {m : Option ((α × Int × Int) ⊕ (Int × Int))} {o : Option (α × Nat)} {k : α × Int × Int → Option ((β × Int × Int) ⊕ (Int × Int))} {kl : Int × Int → Option ((β × Int × Int) ⊕ (Int × Int))} {g : α × Nat → Option (β × Nat)}
    (h : Rd l m o) (hk : ∀ x, o = some x → Rd l (k (x.1, (l.length : Int), (x.2 : Int))) (g x)) (hkl : ∀ z, ∃ z', kl z = some (.inr z')) : Rd l (lbnd m k kl) (o.bind g) := by
  cases o with
  | none =>
    obtain ⟨z, h⟩ := h
    rw [h]
    exact hkl z
  | some x =>
    have h' : m = some (.inl (x.1, (l.length : Int), (x.2 : Int))) := h
    rw [h']
    exact hk x rfl
def rbl (l : List Int) (many : Int) : Nat → Bool → Nat → Option (List Int × Nat)
  | 0, _, p => some ([], p)
  | k + 1, b, p => (rgam l p many).bind fun g => (rbl l many k true g.2).bind fun r => some ((g.1 + if b then 1 else 0) :: r.1, r.2)
def rblk (l : List Int) (p : Nat) (many : Int) : Option (List Int × Nat) := (rgam l p (many + 1)).bind fun g => rbl l many g.1.toNat false g.2
theorem qjC {l : List Int} {many : Int} : ∀ {k : Nat} {b : Bool} {p : Nat} {r : List Int × Nat}, p ≤ l.length → rbl l many k b p = some r → r.1.length = k ∧ r.2 ≤ l.length
  | 0, _, p, r, hp, h => by simp only [rbl, Option.some.injEq] at h; subst h; exact ⟨rfl, hp⟩
  | k + 1, b, p, r, hp, h => by
    simp only [rbl, Option.bind_eq_some_iff, Option.some.injEq] at h
    obtain ⟨g, h1, r', h2, rfl⟩ := h
    have h3 := qjC (jX h1).2.2.2 h2
    simp [h3.1, h3.2]
theorem qmD {α : Type} {lim n : Nat} {y : α} (h : n ≤ lim) : mk lim y (n : Int) = some (List.replicate n y) := by
  unfold mk
  rw [if_pos ⟨by omega, by omega⟩, Int.toNat_natCast]
theorem qn3 {α : Type} {o r : List α} {x y : α} : (o ++ x :: r).set o.length y = o ++ y :: r := by
  rw [List.set_append_right _ _ (Nat.le_refl _)]; simp
theorem qjV {α : Type} {o r : List α} {x : α} : idx (o ++ x :: r) (o.length : Int) = some x := by
  rw [zn]; simp
theorem qjt {F : Nat} (hF : 20000 ≤ F) {l : List Int} (hl : Bit l) (hm : l.length ≤ 8192) {many : Int} (h0 : 0 ≤ many) (h1 : many ≤ 1000000) {w : List Int} (hw : w.length ≤ 1000000) : ∀ (k : Nat) (o : List Int) (p : Nat), w.length < k + o.length → o.length ≤ w.length → p ≤ l.length →
    Rd l (kB F (pk l) many w k (o ++ List.replicate (w.length - o.length) 0, (o.length : Int), (l.length : Int), (p : Int)))
      ((rbl l many (w.length - o.length) (decide (0 < o.length)) p).map fun r => (o ++ r.1, r.2))
  | 0, _, _, _, _, _ => by omega
  | k + 1, o, p, h, ho, hp => by
    show Rd l (yT F (pk l) many w (kB F (pk l) many w k) (o ++ List.replicate (w.length - o.length) 0) (o.length : Int) (l.length : Int) (p : Int)) _
    unfold yT
    by_cases hlt : o.length < w.length
    · rw [if_pos (by simpa using hlt)]
      obtain ⟨d, hd⟩ : ∃ d, w.length - o.length = d + 1 := ⟨w.length - o.length - 1, by omega⟩
      rw [hd]
      unfold rbl
      rw [List.replicate_succ, Option.map_bind]
      refine qdT (qfG hF hl hm hp h0 (by omega)) (fun g hg => ?_) (fun z => ⟨_, rfl⟩)
      have hok := jX hg
      rw [qjV, Int.toNat_natCast, qn3]
      simp only [Option.bind_some, lett, Function.comp]
      rw [qoE, zb (by split <;> omega) (by split <;> omega), zg (by omega)]
      have e : w.length - (o ++ [g.1 + if 0 < o.length then 1 else 0]).length = d := by simp; omega
      have := qjt hF hl hm h0 h1 hw k (o ++ [g.1 + if 0 < o.length then 1 else 0]) g.2 (by simp; omega) (by simp; omega) hok.2.2.2
      rw [e] at this
      simp only [List.append_assoc, List.singleton_append, List.length_append, List.length_singleton] at this
      rw [show decide (0 < o.length + 1) = true from by simp] at this
      have h9 : ((rbl l many d true g.2).bind fun r => some ((g.1 + if decide (0 < o.length) = true then 1 else 0) :: r.1, r.2)).map (fun r => (o ++ r.1, r.2)) = (rbl l many d true g.2).map fun r => (o ++ (g.1 + if 0 < o.length then 1 else 0) :: r.1, r.2) := by
        cases rbl l many d true g.2 <;> simp
      rw [h9]
      exact this
    · rw [if_neg (by simp; omega), show w.length - o.length = 0 from by omega]
      show _ = _
      simp [jm]
theorem qlo {F : Nat} (hF : 20000 ≤ F) {l : List Int} (hl : Bit l) (hm : l.length ≤ 8192) {many : Int} (h0 : 0 ≤ many) (h1 : many ≤ 1000) {p : Nat} (hp : p ≤ l.length) : Rd l (vS F (l.length : Int) (pk l) (p : Int) many) (rblk l p many) := by
  unfold vS rblk
  rw [zb (by omega) (by omega)]
  refine qdT (qfG hF hl hm hp (by omega) (by omega)) (fun g hg => ?_) (fun z => ⟨_, rfl⟩)
  have hok := jX hg
  obtain ⟨n, hn⟩ := Int.eq_ofNat_of_zero_le hok.1
  rw [hn, qmD (by omega)]
  simp only [Option.bind_some, Int.toNat_natCast]
  have := qjt hF hl hm h0 (by omega) (w := List.replicate n 0) (by simp; omega) F [] g.2 (by simp; omega) (by simp) hok.2.2.2
  simp only [List.length_replicate, List.length_nil, Nat.sub_zero, List.nil_append] at this
  rw [show decide (0 < 0) = false from rfl] at this
  have h9 : (rbl l many n false g.2).map (fun r => (r.1, r.2)) = rbl l many n false g.2 := by cases rbl l many n false g.2 <;> rfl
  rw [h9] at this
  exact this
theorem qfJ {x : List Int} {xs : List (List Int)} {i : Nat} (h : xs[i]? = some x) : (xs.drop i).flatten = x ++ (xs.drop (i + 1)).flatten := by
  have hlt := (List.getElem?_eq_some_iff.1 h).1
  rw [List.drop_eq_getElem_cons hlt, List.flatten_cons]
  rw [List.getElem?_eq_getElem hlt] at h
  simp only [Option.some.injEq] at h
  rw [h]
theorem qiZ {F : Nat} {xs : List (List Int)} (hm : xs.length ≤ 1000) : ∀ (k i : Nat) (o : List Int), xs.length < k + i → i ≤ xs.length → o.length + (xs.drop i).flatten.length ≤ 1000000 →
    zD F xs k (o, (i : Int)) = some (o ++ (xs.drop i).flatten)
  | 0, _, _, _, _, _ => by omega
  | k + 1, i, o, h, hi, ho => by
    show zv F xs (zD F xs k) o (i : Int) = _
    unfold zv
    by_cases hlt : i < xs.length
    · have hg := List.getElem?_eq_getElem hlt
      have hf := qfJ hg
      rw [hf, List.length_append] at ho
      rw [if_pos (by simpa using hlt), zn, hg, hf]
      simp only [Option.bind_some]
      rw [zU (by omega), zg (by omega)]
      simp only [Option.bind_some]
      rw [qiZ hm k (i + 1) _ (by omega) (by omega) (by rw [List.length_append]; omega), List.append_assoc]
    · rw [if_neg (by simp; omega), List.drop_eq_nil_of_le (by omega)]
      simp [vp]
theorem qjg {F : Nat} (hF : 20000 ≤ F) {xs : List (List Int)} (hm : xs.length ≤ 1000) (ht : xs.flatten.length ≤ 1000000) : ∀ (k i n : Nat), xs.length < k + i → i ≤ xs.length → n + (xs.drop i).flatten.length = xs.flatten.length →
    zC F xs k ((n : Int), (i : Int)) = some xs.flatten
  | 0, _, _, _, _, _ => by omega
  | k + 1, i, n, h, hi, hn => by
    show zw F xs (zC F xs k) (n : Int) (i : Int) = _
    unfold zw
    by_cases hlt : i < xs.length
    · have hg := List.getElem?_eq_getElem hlt
      have hf := qfJ hg
      rw [hf, List.length_append] at hn
      rw [if_pos (by simpa using hlt), zn, hg]
      simp only [Option.bind_some]
      rw [jx (by omega), if_neg (by simp; omega), zg (by omega)]
      exact qjg hF hm ht k (i + 1) _ (by omega) (by omega) (by omega)
    · rw [if_neg (by simp; omega)]
      rw [List.drop_eq_nil_of_le (by omega)] at hn
      simp only [List.flatten_nil, List.length_nil] at hn
      unfold kI
      rw [qni (by omega)]
      simp only [Option.bind_some]
      have := qiZ (F := F) hm F 0 [] (by omega) (by omega) (by simpa using ht)
      simpa using this
theorem qlY {F : Nat} (hF : 20000 ≤ F) {a b c : List Int} (h : a.length + (b.length + c.length) ≤ 1000000) : kh F [a, b, c] = some (a ++ (b ++ c)) := by
  have := qjg (F := F) hF (xs := [a, b, c]) (by simp) (by simpa using h) F 0 0 (by simp; omega) (by simp) (by simp)
  simp only [List.flatten_cons, List.flatten_nil, List.append_nil] at this
  exact this
theorem qpj {F : Nat} {a : List Int} (h : a.length ≤ 1000000) : ka F a = some (srt a) := by
  unfold ka
  rw [if_pos (by omega)]
def rrn (l : List Int) (least many : Int) : Nat → Bool → Int → Nat → Option (List (Int × Int) × Nat)
  | 0, _, _, p => some ([], p)
  | k + 1, b, a, p => (rgam l p 2097152).bind fun g => (rgam l g.2 many).bind fun x =>
      (rrn l least many k true (a + (if b then g.1 + 2 else zV g.1) + (x.1 + least) - 1) x.2).bind fun r => some ((a + (if b then g.1 + 2 else zV g.1), x.1 + least) :: r.1, r.2)
def rrns (l : List Int) (p : Nat) (node least many : Int) : Option (List (Int × Int) × Nat) := (rgam l p (many / least)).bind fun g => rrn l least many g.1.toNat false node g.2
theorem qki {l : List Int} {least many : Int} : ∀ {k : Nat} {b : Bool} {a : Int} {p : Nat} {r : List (Int × Int) × Nat}, p ≤ l.length → rrn l least many k b a p = some r → r.1.length = k ∧ r.2 ≤ l.length
  | 0, _, _, p, r, hp, h => by simp only [rrn, Option.some.injEq] at h; subst h; exact ⟨rfl, hp⟩
  | k + 1, b, a, p, r, hp, h => by
    simp only [rrn, Option.bind_eq_some_iff, Option.some.injEq] at h
    obtain ⟨g, h1, x, h2, r', h3, rfl⟩ := h
    have h4 := qki (jX h2).2.2.2 h3
    simp [h4.1, h4.2]
theorem qjB {g : Int} (h0 : 0 ≤ g) (h : g ≤ 2097152) : -1048577 ≤ zV g ∧ zV g ≤ 1048576 := by unfold zV; split <;> omega
theorem qnm {F : Nat} (hF : 20000 ≤ F) {l : List Int} (hl : Bit l) (hm : l.length ≤ 8192) {least many : Int} (h0 : 0 ≤ many) (h1 : many ≤ 300) (h2 : 2 ≤ least) (h3 : least ≤ 300) {w : List (Int × Int)} (hw : w.length ≤ 1000) : ∀ (k : Nat) (o : List (Int × Int)) (a : Int) (p : Nat), w.length < k + o.length → o.length ≤ w.length → p ≤ l.length → (-3000000 * ((o.length : Int) + 1) ≤ a ∧ a ≤ 3000000 * ((o.length : Int) + 1)) →
    Rd l (zZ F (pk l) least many w k (o ++ List.replicate (w.length - o.length) (0, 0), a, (o.length : Int), (l.length : Int), (p : Int)))
      ((rrn l least many (w.length - o.length) (decide (0 < o.length)) a p).map fun r => (o ++ r.1, r.2))
  | 0, _, _, _, _, _, _, _ => by omega
  | k + 1, o, a, p, h, ho, hp, ha => by
    show Rd l (y9 F (pk l) least many w (zZ F (pk l) least many w k) (o ++ List.replicate (w.length - o.length) (0, 0)) a (o.length : Int) (l.length : Int) (p : Int)) _
    unfold y9
    by_cases hlt : o.length < w.length
    · rw [if_pos (by simpa using hlt)]
      obtain ⟨d, hd⟩ : ∃ d, w.length - o.length = d + 1 := ⟨w.length - o.length - 1, by omega⟩
      rw [hd]
      unfold rrn
      rw [List.replicate_succ, Option.map_bind]
      refine qdT (qfG hF hl hm hp (by omega) (by omega)) (fun g hg => ?_) (fun z => ⟨_, rfl⟩)
      have hok := jX hg
      have hun := qjB hok.1 hok.2.1
      have hj : ∀ (s : Int), s = a + (if decide (0 < o.length) = true then g.1 + 2 else zV g.1) →
          Rd l (yb F (zZ F (pk l) least many w k) (pk l) least many (o ++ (0, 0) :: List.replicate d (0, 0)) (o.length : Int) (g.1, (l.length : Int), (g.2 : Int)) s)
            (Option.map (fun r => (o ++ r.1, r.2)) ((rgam l g.2 many).bind fun x => (rrn l least many d true (a + (if decide (0 < o.length) = true then g.1 + 2 else zV g.1) + (x.1 + least) - 1) x.2).bind fun r => some ((a + (if decide (0 < o.length) = true then g.1 + 2 else zV g.1), x.1 + least) :: r.1, r.2))) := by
        intro s hs
        rw [← hs]
        have hsb : -3000000 * ((o.length : Int) + 1) - 1048577 ≤ s ∧ s ≤ 3000000 * ((o.length : Int) + 1) + 2097154 := by rw [hs]; split <;> omega
        unfold yb
        rw [Option.map_bind]
        refine qdT (qfG hF hl hm hok.2.2.2 h0 (by omega)) (fun x hx => ?_) (fun z => ⟨_, rfl⟩)
        have hox := jX hx
        rw [qjV, Int.toNat_natCast, qn3]
        simp only [Option.bind_some, lett, Function.comp]
        rw [qjV, zb (by omega) (by omega)]
        simp only [Option.bind_some]
        have e1 : isub .i64 (x.1 + least) 1 = x.1 + least - 1 := zo (by omega) (by omega)
        rw [e1, zb (by omega) (by omega), zg (by omega)]
        have e : w.length - (o ++ [(s, x.1 + least)]).length = d := by simp; omega
        have := qnm hF hl hm h0 h1 h2 h3 hw k (o ++ [(s, x.1 + least)]) (s + (x.1 + least) - 1) x.2 (by simp; omega) (by simp; omega) hox.2.2.2 (by simp; omega)
        rw [e] at this
        simp only [List.append_assoc, List.singleton_append, List.length_append, List.length_singleton] at this
        rw [show decide (0 < o.length + 1) = true from by simp] at this
        have h9 : ((rrn l least many d true (s + (x.1 + least) - 1) x.2).bind fun r => some ((s, x.1 + least) :: r.1, r.2)).map (fun r => (o ++ r.1, r.2)) = (rrn l least many d true (s + (x.1 + least) - 1) x.2).map fun r => (o ++ (s, x.1 + least) :: r.1, r.2) := by
          cases rrn l least many d true (s + (x.1 + least) - 1) x.2 <;> simp
        rw [h9, show s + (x.1 + least - 1) = s + (x.1 + least) - 1 from by omega]
        exact this
      simp only [Function.comp]
      by_cases hz : 0 < o.length
      · rw [if_neg (by simp; intro hh; subst hh; simp at hz)]
        have e1 : iadd .i64 g.1 2 = g.1 + 2 := zb (by omega) (by omega)
        rw [e1, zb (by omega) (by omega)]
        exact hj _ (by rw [if_pos (by simpa using hz)])
      · have hz0 : o.length = 0 := by omega
        rw [if_pos (by simp [hz0])]
        obtain ⟨gn, hgn⟩ := Int.eq_ofNat_of_zero_le hok.1
        rw [show iconv .u64 g.1 = g.1 from by rw [hgn]; exact yK (by omega), qju F hok.1 (by omega)]
        simp only [Option.bind_some]
        rw [zb (by omega) (by omega)]
        exact hj _ (by rw [if_neg (by simp [hz0])])
    · rw [if_neg (by simp; omega), show w.length - o.length = 0 from by omega]
      show _ = _
      simp [qaj]
theorem qnx {F : Nat} (hF : 20000 ≤ F) {l : List Int} (hl : Bit l) (hm : l.length ≤ 8192) {node least many : Int} (h0 : 0 ≤ many) (h1 : many ≤ 300) (h2 : 2 ≤ least) (h3 : least ≤ 300) (hn : Nd node) {p : Nat} (hp : p ≤ l.length) :
    Rd l (jT F (l.length : Int) (pk l) (p : Int) node least many) (rrns l p node least many) := by
  unfold jT rrns
  unfold Nd at hn
  have hq : iquo .i64 many least = many / least := by
    obtain ⟨m, rfl⟩ := Int.eq_ofNat_of_zero_le h0
    obtain ⟨c, rfl⟩ := Int.eq_ofNat_of_zero_le (show 0 ≤ least by omega)
    unfold iquo
    rw [Int.tdiv_eq_ediv_of_nonneg (by omega)]
    have h5 : (m : Int) / (c : Int) ≤ m := Int.ediv_le_self _ (by omega)
    have h6 : 0 ≤ (m : Int) / (c : Int) := Int.ediv_nonneg (by omega) (by omega)
    exact kn (by omega) (by omega)
  have hd0 : 0 ≤ many / least := Int.ediv_nonneg h0 (by omega)
  have hd1 : many / least ≤ many := Int.ediv_le_self _ h0
  have hc : ∀ {ρ : Type} (m : Option ρ), chk (least != 0) m = m := fun m => by unfold chk; rw [if_pos (by simp; omega)]
  rw [hq, hc]
  refine qdT (qfG hF hl hm hp hd0 (by omega)) (fun g hg => ?_) (fun z => ⟨_, rfl⟩)
  have hok := jX hg
  obtain ⟨n, hn'⟩ := Int.eq_ofNat_of_zero_le hok.1
  rw [hn', qmD (by omega)]
  simp only [Option.bind_some, Int.toNat_natCast]
  have := qnm hF hl hm h0 h1 h2 h3 (w := List.replicate n (0, 0)) (by simp; omega) F [] node g.2 (by simp; omega) (by simp) hok.2.2.2 (by simp; omega)
  simp only [List.length_replicate, List.length_nil, Nat.sub_zero, List.nil_append] at this
  rw [show decide (0 < 0) = false from rfl] at this
  have h9 : (rrn l least many n false node g.2).map (fun r => (r.1, r.2)) = rrn l least many n false node g.2 := by cases rrn l least many n false node g.2 <;> rfl
  rw [h9] at this
  exact this
def rls2 (l : List Int) (node : Int) (k : Nat) (many : Int) (out : List Int) (R : List (Int × Int)) (p : Nat) : Option (List Int × Nat) :=
  if (rm R []).2 = 0 ∧ ((rm R []).1.length : Int) ≤ many - out.length then
    match gfr l k (many - out.length - (rm R []).1.length).toNat false node p with
    | .inl _ => none
    | .inr g => some (srt (out ++ ((rm R []).1 ++ g.1)), g.2)
  else none
def rls1 (l : List Int) (node least : Int) (k : Nat) (many : Int) (out : List Int) (p : Nat) : Option (List Int × Nat) :=
  if many - out.length = 0 then some (out, p) else
  if 0 < least then (rrns l p node least (many - out.length)).bind fun r => rls2 l node k many out r.1 r.2 else rls2 l node k many out [] p
def rls (l : List Int) (p : Nat) (node : Int) (fr : List Int) (back least : Int) (k : Nat) : Option (List Int × Nat) :=
  (rgam l p 300).bind fun m => if m.1 = 0 then some ([], m.2) else
    if 0 < back then (rblk l m.2 fr.length).bind fun b => if (cpy fr b.1).2 = 0 ∧ ((cpy fr b.1).1.length : Int) ≤ m.1 then rls1 l node least k m.1 (cpy fr b.1).1 b.2 else none
    else rls1 l node least k m.1 [] m.2
theorem qok {α σ ρ : Type} (y : α) (k : α → Option ρ) (kl : σ → Option ρ) : lbnd (some (.inl y)) k kl = k y := rfl
theorem qez {F : Nat} {c : Bool} {ρ : Type} (k kl : Unit → Option ρ) : lbnd (yo F c) k kl = if c then k () else kl () := by cases c <;> rfl
theorem ql4 {l : List Int} {k : Nat} : ∀ {m : Nat} {b : Bool} {a : Int} {p : Nat} {e : Int}, gfr l k m b a p = .inl e → e ≠ 0
  | 0, _, _, _, _, h => by simp [gfr] at h
  | m + 1, b, a, p, e, h => by
    unfold gfr at h
    split at h
    · rename_i h1; simp only [Sum.inl.injEq] at h; rw [← h]; exact h1
    · split at h
      · simp only [Sum.inl.injEq] at h; rw [← h]; decide
      · split at h
        · rename_i e' he; simp only [Sum.inl.injEq] at h; rw [← h]; exact ql4 he
        · simp at h
theorem qo6 {l : List Int} {k : Nat} (hl : Bit l) (hk : 1 ≤ k) : ∀ {m : Nat} {b : Bool} {a : Int} {p : Nat} {r : List Int × Nat}, p ≤ l.length → gfr l k m b a p = .inr r → r.2 ≤ l.length
  | 0, _, _, p, r, hp, h => by simp only [gfr, Sum.inr.injEq] at h; subst h; exact hp
  | m + 1, b, a, p, r, hp, h => by
    unfold gfr at h
    split at h
    · simp at h
    · rename_i h1
      split at h
      · simp at h
      · split at h
        · simp at h
        · rename_i r' hr
          simp only [Sum.inr.injEq] at h
          rcases qpc hl (k := k) (p := p) hk with h2 | ⟨g, q, h2, h3, h4⟩
          · exact absurd h2 h1
          · rw [h2] at hr
            rw [← h]
            exact qo6 (r := r') hl hk h4 hr
theorem qnh {F k : Nat} (hF : 2000000 ≤ F) (h1 : 1 ≤ k) (h2 : k ≤ 16) {l : List Int} (hl : Bit l) (hm : l.length ≤ 8192) {node many : Int} (hn : Nd node) {out : List Int} (ho : (out.length : Int) ≤ many) (hmm : many ≤ 300) {R : List (Int × Int)} {p : Nat} (hp : p ≤ l.length) {x : Int × Int × Int} (hx : x.1 = many) :
    Rd l (yr F (pk l) node (k : Int) x out R (l.length : Int) (p : Int)) (rls2 l node k many out R p) := by
  unfold yr rls2
  rw [qoT (by omega), hx]
  simp only [Option.bind_some]
  have hlen := qqC (R := R) (rest := [])
  have e1 : isub .i64 many (out.length : Int) = many - out.length := zo (by omega) (by omega)
  rw [qez, e1]
  by_cases hc : (rm R []).2 = 0 ∧ ((rm R []).1.length : Int) ≤ many - out.length
  · have e2 : isub .i64 (many - (out.length : Int)) ((rm R []).1.length : Int) = ((many - out.length - (rm R []).1.length).toNat : Int) := by rw [zo (by omega) (by omega)]; omega
    rw [if_pos (by simpa using hc), if_pos hc, e2, qn1 (by omega) hl hm h1 h2 (by omega) hp hn]
    simp only [Option.bind_some]
    rw [qez]
    cases hg : gfr l k (many - out.length - (rm R []).1.length).toNat false node p with
    | inl e =>
      have := ql4 hg
      rw [if_neg (show ¬ ((gfI [] (Sum.inl e : Int ⊕ (List Int × Nat))).2.2 == 0) = true by simpa [gfI] using this)]
      exact ⟨_, rfl⟩
    | inr g =>
      have hgl := qj2 hg
      rw [if_pos (show ((gfI [] (Sum.inr g : Int ⊕ (List Int × Nat))).2.2 == 0) = true by simp [gfI]), show (gfI [] (Sum.inr g : Int ⊕ (List Int × Nat))).1 = g.1 from by simp [gfI], qlY (by omega) (by omega)]
      simp only [Option.bind_some]
      rw [qpj (by simp; omega)]
      simp only [Option.bind_some]
      have hch : ∀ {ρ : Type} (q : Option ρ), chk (decide ((srt (out ++ ((rm R []).1 ++ g.1))).length = (out ++ ((rm R []).1 ++ g.1)).length)) q = q := fun q => by unfold chk; rw [if_pos (decide_eq_true (qgx _))]
      rw [hch]
      rfl
  · rw [if_neg (by simpa using hc), if_neg hc]
    exact ⟨_, rfl⟩
theorem qmF {F k : Nat} (hF : 2000000 ≤ F) (h1 : 1 ≤ k) (h2 : k ≤ 16) {l : List Int} (hl : Bit l) (hm : l.length ≤ 8192) {node many least : Int} (hn : Nd node) {out : List Int} (ho : (out.length : Int) ≤ many) (hmm : many ≤ 300) {p : Nat} (hp : p ≤ l.length) {x : Int × Int × Int} (hx : x.1 = many) (hle : least = 0 ∨ 2 ≤ least ∧ least ≤ 300) :
    Rd l (yx F (pk l) node least (k : Int) x out (l.length : Int) (p : Int)) (rls1 l node least k many out p) := by
  unfold yx rls1
  have e1 : isub .i64 x.1 (out.length : Int) = many - out.length := by rw [hx]; exact zo (by omega) (by omega)
  rw [e1]
  by_cases h0 : many - out.length = 0
  · rw [if_pos (by simpa using h0), if_pos h0]
    rfl
  · rw [if_neg (by simpa using h0), if_neg h0]
    by_cases hs : 0 < least
    · rw [if_pos (by simpa using hs), if_pos hs]
      refine qdT (qnx (by omega) hl hm (by omega) (by omega) (by omega) (by omega) hn hp) (fun r hr => ?_) (fun z => ⟨_, rfl⟩)
      have hq : r.2 ≤ l.length := by
        unfold rrns at hr
        rw [Option.bind_eq_some_iff] at hr
        obtain ⟨g, hg, hr⟩ := hr
        exact (qki (jX hg).2.2.2 hr).2
      exact qnh hF h1 h2 hl hm hn ho hmm hq hx
    · rw [if_neg (by simpa using hs), if_neg hs]
      exact qnh hF h1 h2 hl hm hn ho hmm hp hx
theorem qmU {l : List Int} {p : Nat} {many : Int} {b : List Int × Nat} (h : rblk l p many = some b) : b.2 ≤ l.length := by
  unfold rblk at h
  rw [Option.bind_eq_some_iff] at h
  obtain ⟨g, hg, h⟩ := h
  exact (qjC (jX hg).2.2.2 h).2
theorem qqu {F k : Nat} (hF : 2000000 ≤ F) (h1 : 1 ≤ k) (h2 : k ≤ 16) {l : List Int} (hl : Bit l) (hm : l.length ≤ 8192) {node back least : Int} {fr : List Int} (hn : Nd node) {p : Nat} (hp : p ≤ l.length) (hfr : 0 < back → gkc fr = 0) (hle : least = 0 ∨ 2 ≤ least ∧ least ≤ 300) :
    Rd l (vo F (l.length : Int) (pk l) (p : Int) node fr back least (k : Int)) (rls l p node fr back least k) := by
  unfold vo rls
  refine qdT (qfG (by omega) hl hm hp (by omega) (by omega)) (fun m hg => ?_) (fun z => ⟨_, rfl⟩)
  have hok := jX hg
  by_cases h0 : m.1 = 0
  · rw [if_pos (by simpa using h0), if_pos h0]
    rfl
  · rw [if_neg (by simpa using h0), if_neg h0]
    by_cases hb : 0 < back
    · have hfl := (kF.1 (hfr hb)).1
      rw [if_pos (by simpa using hb), if_pos hb]
      refine qdT (qlo (by omega) hl hm (by omega) (by omega) hok.2.2.2) (fun b hbk => ?_) (fun z => ⟨_, rfl⟩)
      rw [qpW (by omega)]
      simp only [Option.bind_some]
      rw [qez]
      by_cases hc : (cpy fr b.1).2 = 0 ∧ ((cpy fr b.1).1.length : Int) ≤ m.1
      · rw [if_pos (by simpa using hc), if_pos hc]
        exact qmF hF h1 h2 hl hm hn hc.2 (by omega) (qmU hbk) rfl hle
      · rw [if_neg (by simpa using hc), if_neg hc]
        exact ⟨_, rfl⟩
    · rw [if_neg (by simpa using hb), if_neg hb]
      exact qmF hF h1 h2 hl hm hn (by simp; omega) (by omega) hok.2.2.2 rfl hle
theorem qoa {k : Nat} {l : List Int} {node back least : Int} {fr : List Int} {p : Nat} {r : List Int × Nat} (hl : Bit l) (h1 : 1 ≤ k) (h : rls l p node fr back least k = some r) : r.2 ≤ l.length := by
  have h2 : ∀ {many : Int} {out : List Int} {R : List (Int × Int)} {q : Nat}, q ≤ l.length → rls2 l node k many out R q = some r → r.2 ≤ l.length := by
    intro many out R q hq hr
    unfold rls2 at hr
    split at hr
    · split at hr
      · simp at hr
      · rename_i g hg
        simp only [Option.some.injEq] at hr
        rw [← hr]
        exact qo6 (r := g) hl h1 hq hg
    · simp at hr
  have h3 : ∀ {many : Int} {out : List Int} {q : Nat}, q ≤ l.length → rls1 l node least k many out q = some r → r.2 ≤ l.length := by
    intro many out q hq hr
    unfold rls1 at hr
    split at hr
    · simp only [Option.some.injEq] at hr; rw [← hr]; exact hq
    · split at hr
      · rw [Option.bind_eq_some_iff] at hr
        obtain ⟨r', hr1, hr2⟩ := hr
        refine h2 ?_ hr2
        unfold rrns at hr1
        rw [Option.bind_eq_some_iff] at hr1
        obtain ⟨g, hg, hr1⟩ := hr1
        exact (qki (jX hg).2.2.2 hr1).2
      · exact h2 hq hr
  unfold rls at h
  rw [Option.bind_eq_some_iff] at h
  obtain ⟨m, hm, h⟩ := h
  split at h
  · simp only [Option.some.injEq] at h; rw [← h]; exact (jX hm).2.2.2
  · split at h
    · rw [Option.bind_eq_some_iff] at h
      obtain ⟨b, hb, h⟩ := h
      split at h
      · exact h3 (qmU hb) h
      · simp at h
    · exact h3 (jX hm).2.2.2 h
def rdl (l : List Int) (p : Nat) (node : Int) (fr : List Int) (back least : Int) (k : Nat) : Option (List Int × Nat) :=
  (rls l p node fr back least k).bind fun r => if gkc r.1 = 0 ∧ (enc node r.1 fr back least k).length ≤ 8192 ∧ p + (enc node r.1 fr back least k).length = r.2 ∧ (l.drop p).take (enc node r.1 fr back least k).length = enc node r.1 fr back least k then some r else none
theorem qmI {F : Nat} {l e : List Int} (hl : Bit l) (hm : l.length ≤ 8192) (he : Bit e) (hem : e.length ≤ 8192) {p : Nat} {x17 : List Int × Int × Int} (h17 : x17.2.1 = (l.length : Int)) (hpe : p + e.length ≤ l.length) : ∀ (k i : Nat), e.length < k + i → i ≤ e.length →
    (if (l.drop (p + i)).take (e.length - i) = e.drop i then ke F (pk l) (p : Int) x17 ((e.length : Int), pk e, false) k (i : Int) = some (x17.1, true, x17.2.1, x17.2.2)
      else ∃ a b, ke F (pk l) (p : Int) x17 ((e.length : Int), pk e, false) k (i : Int) = some ([], false, a, b))
  | 0, _, _, _ => by omega
  | k + 1, i, h, hi => by
    have hd : ke F (pk l) (p : Int) x17 ((e.length : Int), pk e, false) (k + 1) (i : Int) = vt F (pk l) (p : Int) x17 ((e.length : Int), pk e, false) (ke F (pk l) (p : Int) x17 ((e.length : Int), pk e, false) k) (i : Int) := rfl
    rw [hd]
    unfold vt
    by_cases hlt : i < e.length
    · rw [if_pos (show decide ((i : Int) < (((e.length : Int), pk e, false) : Int × List Int × Bool).1) = true by simpa using hlt)]
      simp only
      rw [qog he (by omega) hlt, h17, jx (by omega), qog hl (by omega) (show p + i < l.length by omega)]
      simp only [Option.bind_some]
      rw [qez]
      have ih := qmI (F := F) hl hm he hem h17 hpe k (i + 1) (by omega) (by omega)
      have hstep : ((l.drop (p + i)).take (e.length - i) = e.drop i) ↔ (e[i] = l[p + i] ∧ (l.drop (p + (i + 1))).take (e.length - (i + 1)) = e.drop (i + 1)) := by
        rw [List.drop_eq_getElem_cons (show p + i < l.length by omega), List.drop_eq_getElem_cons hlt, show e.length - i = (e.length - (i + 1)) + 1 from by omega, List.take_succ_cons, List.cons.injEq, show p + i + 1 = p + (i + 1) from by omega]
        constructor
        · rintro ⟨a, b⟩; exact ⟨a.symm, b⟩
        · rintro ⟨a, b⟩; exact ⟨a.symm, b⟩
      rw [zg (by omega)]
      by_cases hq : e[i] = l[p + i]
      · rw [if_pos (show (e[i] == l[p + i]) = true by simpa using hq)]
        by_cases hr : (l.drop (p + (i + 1))).take (e.length - (i + 1)) = e.drop (i + 1)
        · rw [if_pos (hstep.2 ⟨hq, hr⟩)]
          rw [if_pos hr] at ih
          rw [h17] at ih
          exact ih
        · rw [if_neg (fun hh => hr (hstep.1 hh).2)]
          rw [if_neg hr] at ih
          exact ih
      · rw [if_neg (show ¬ (e[i] == l[p + i]) = true by simpa using hq), if_neg (fun hh => hq (hstep.1 hh).1)]
        exact ⟨_, _, rfl⟩
    · obtain rfl : i = e.length := by omega
      rw [if_neg (show ¬ decide (((e.length : Nat) : Int) < (((e.length : Int), pk e, false) : Int × List Int × Bool).1) = true by simp)]
      rw [if_pos (by simp)]
      rfl
theorem qpM {node : Int} {x fr : List Int} {back least : Int} {k : Nat} : 1 ≤ (enc node x fr back least k).length := by
  unfold enc
  rw [List.length_append, qmo]; omega
theorem qoD {F k : Nat} (hF : 2000000 ≤ F) (h1 : 1 ≤ k) (h2 : k ≤ 16) {l : List Int} (hl : Bit l) (hm : l.length ≤ 8192) {node back least : Int} {fr : List Int} (hn : Nd node) {p : Nat} (hp : p ≤ l.length) (hfr : 0 < back → gkc fr = 0) (hle : least = 0 ∨ 2 ≤ least ∧ least ≤ 300) :
    match rdl l p node fr back least k with
    | none => ∃ a b, vl F (l.length : Int) (pk l) (p : Int) node fr back least (k : Int) = some ([], false, a, b)
    | some r => vl F (l.length : Int) (pk l) (p : Int) node fr back least (k : Int) = some (r.1, true, (l.length : Int), (r.2 : Int)) := by
  have hL := qqu hF h1 h2 hl hm hn hp hfr hle
  unfold vl rdl
  cases hr : rls l p node fr back least k with
  | none =>
    rw [hr] at hL
    obtain ⟨z, hz⟩ := hL
    rw [hz]
    exact ⟨_, _, rfl⟩
  | some r =>
    rw [hr] at hL
    have hL' : vo F (l.length : Int) (pk l) (p : Int) node fr back least (k : Int) = some (.inl (r.1, (l.length : Int), (r.2 : Int))) := hL
    have hat := qoa hl h1 hr
    rw [hL', qok, qey (by omega)]
    simp only [Option.bind_some]
    rw [qez]
    by_cases hg : gkc r.1 = 0
    · obtain ⟨e, f, he, hrep⟩ := qlt hF h1 h2 (x := r.1) hn hg hfr hle
      have hen := qpM (node := node) (x := r.1) (fr := fr) (back := back) (least := least) (k := k)
      rw [if_pos (show (gkc r.1 == 0) = true by simpa using hg), he]
      simp only [Option.bind_some]
      cases f with
      | true =>
        have hfl := hrep.full rfl
        rw [qez]
        rw [if_neg (fun hh => by omega)]
        exact ⟨_, _, rfl⟩
      | false =>
        have hel := hrep.ok rfl
        have heb := hrep.bit
        have hem := hrep.len
        rw [hel] at heb hem ⊢
        simp only [Bool.not_false, if_true]
        rw [zo (by omega) (by omega), qez]
        by_cases hq : p + (enc node r.1 fr back least k).length = r.2
        · rw [if_pos (show (((enc node r.1 fr back least k).length : Int) == (r.2 : Int) - p) = true by simp; omega)]
          unfold vu
          have := qmI (F := F) hl hm heb hem (p := p) (x17 := (r.1, (l.length : Int), (r.2 : Int))) rfl (by omega) F 0 (by omega) (by omega)
          simp only [Nat.add_zero, Nat.sub_zero, List.drop_zero] at this
          by_cases hb : (l.drop p).take (enc node r.1 fr back least k).length = enc node r.1 fr back least k
          · rw [if_pos ⟨hg, hem, hq, hb⟩]
            rw [if_pos hb] at this
            exact this
          · rw [if_neg (fun hh => hb hh.2.2.2)]
            rw [if_neg hb] at this
            exact this
        · rw [if_neg (show ¬ (((enc node r.1 fr back least k).length : Int) == (r.2 : Int) - p) = true by simp; omega), if_neg (fun hh => hq hh.2.2.1)]
          exact ⟨_, _, rfl⟩
    · rw [if_neg (show ¬ (gkc r.1 == 0) = true by simpa using hg), if_neg (fun hh => hg hh.1)]
      exact ⟨_, _, rfl⟩
theorem qeB {n : Nat} {most : Int} (hn : n ≤ 1099511627776) (hm : (n : Int) ≤ most) (P R : List Int) : rgam (P ++ (ga n ++ R)) P.length most = some ((n : Int), P.length + (ga n).length) := by
  unfold rgam
  rw [← List.append_assoc, qqU hn]
  simp only [true_and]
  rw [if_pos hm, Int.toNat_natCast]
theorem qgk {n : Int} {most : Int} (h0 : 0 ≤ n) (hn : n ≤ 1099511627776) (hm : n ≤ most) (P R : List Int) : rgam (P ++ (ga n.toNat ++ R)) P.length most = some (n, P.length + (ga n.toNat).length) := by
  rw [qeB (by omega) (by omega)]
  congr 2
  omega
theorem qjS {many : Int} (hmany : many ≤ 1000000) : ∀ (bs : List Int) (b : Bool) (P R : List Int), okB (!b) bs = true → (∀ n ∈ bs, n ≤ many) → rbl (P ++ (encBs b bs ++ R)) many bs.length b P.length = some (bs, P.length + (encBs b bs).length)
  | [], b, P, R, _, _ => by simp [rbl, encBs]
  | n :: bs, b, P, R, h, hb => by
    rw [qew] at h
    simp only [Bool.and_eq_true, Bool.or_eq_true, decide_eq_true_eq, Bool.not_eq_true'] at h
    have hn := hb n (by simp)
    have hv : 0 ≤ n - (if b = true then 1 else 0) := by
      cases b with
      | false => simp; exact h.1.1
      | true => rcases h.1.2 with h2 | h2; · simp at h2
                · simp; omega
    unfold encBs
    simp only [List.length_cons, rbl, List.append_assoc]
    rw [qgk hv (by split <;> omega) (by split <;> omega)]
    simp only [Option.bind_some]
    have := qjS hmany bs true (P ++ ga (n - if b = true then 1 else 0).toNat) R (by simpa using h.2) (fun z hz => hb z (by simp [hz]))
    simp only [List.append_assoc, List.length_append] at this
    rw [this]
    simp only [Option.bind_some, List.length_append]
    congr 2
    · congr 1; split <;> omega
    · omega
theorem qor {many : Int} (hmany : many ≤ 1000000) {bs : List Int} (P R : List Int) (h : okB true bs = true) (hb : ∀ n ∈ bs, n ≤ many) (hl : (bs.length : Int) ≤ many + 1) : rblk (P ++ (encB bs ++ R)) P.length many = some (bs, P.length + (encB bs).length) := by
  unfold rblk encB
  rw [List.append_assoc, qeB (by omega) (by omega)]
  simp only [Option.bind_some, Int.toNat_natCast]
  have := qjS hmany bs false (P ++ ga bs.length) R (by simpa using h) hb
  simp only [List.append_assoc, List.length_append] at this
  rw [this]
  congr 2
  rw [List.length_append]; omega
theorem qnc {least many : Int} (hle : 0 ≤ least) : ∀ (R : List (Int × Int)) (b : Bool) (a q : Int) (P T : List Int), (∀ r ∈ R, RunOk r ∧ least ≤ r.2 ∧ r.2 - least ≤ many) → Nd a → Sep q R → (b = true → a + 1 ≤ q) →
    rrn (P ++ (encRs least b a R ++ T)) least many R.length b a P.length = some (R, P.length + (encRs least b a R).length)
  | [], _, _, _, P, T, _, _, _, _ => by simp [rrn, encRs]
  | r :: R, b, a, q, P, T, hR, ha, hs, hb => by
    obtain ⟨hro, hrl, hrm⟩ := hR r (by simp)
    obtain ⟨s1, s2, s3⟩ := hs
    unfold RunOk at hro
    unfold Nd at ha
    have hf := qeA (x := r.1 - a) (by omega)
    have hf2 : foldOf (r.1 - a) ≤ 2097152 := by unfold foldOf; split <;> omega
    have hv : 0 ≤ (if b = true then r.1 - a - 2 else foldOf (r.1 - a)) ∧ (if b = true then r.1 - a - 2 else foldOf (r.1 - a)) ≤ 2097152 := by
      cases b with
      | false => simp; omega
      | true => have := hb rfl; simp; omega
    unfold encRs
    simp only [List.length_cons, rrn, List.append_assoc]
    rw [qgk hv.1 (by omega) hv.2]
    simp only [Option.bind_some]
    have e1 := qgk (n := r.2 - least) (most := many) (by omega) (by omega) hrm (P ++ ga (if b = true then r.1 - a - 2 else foldOf (r.1 - a)).toNat) (encRs least true (r.1 + r.2 - 1) R ++ T)
    simp only [List.append_assoc, List.length_append] at e1
    rw [e1]
    simp only [Option.bind_some]
    have e2 : a + (if b = true then (if b = true then r.1 - a - 2 else foldOf (r.1 - a)) + 2 else zV (if b = true then r.1 - a - 2 else foldOf (r.1 - a))) = r.1 := by
      cases b with
      | false => simp only [Bool.false_eq_true, if_false]; rw [qfr]; omega
      | true => simp only [if_true]; omega
    rw [e2, show r.2 - least + least = r.2 from by omega]
    have := qnc hle R true (r.1 + r.2 - 1) (r.1 + r.2) ((P ++ ga (if b = true then r.1 - a - 2 else foldOf (r.1 - a)).toNat) ++ ga (r.2 - least).toNat) T (fun z hz => hR z (by simp [hz])) (by unfold Nd; omega) s3 (fun _ => by omega)
    simp only [List.append_assoc, List.length_append] at this
    rw [show P.length + (ga (if b = true then r.1 - a - 2 else foldOf (r.1 - a)).toNat).length + (ga (r.2 - least).toNat).length = P.length + ((ga (if b = true then r.1 - a - 2 else foldOf (r.1 - a)).toNat).length + (ga (r.2 - least).toNat).length) from by omega, this]
    simp only [Option.bind_some, List.length_append]
    congr 2
    omega
theorem qjv {least q : Int} (hle : 2 ≤ least) : ∀ {R : List (Int × Int)}, Sep q R → (∀ r ∈ R, least ≤ r.2) → least * (R.length : Int) ≤ ((flat R).length : Int)
  | [], _, _ => by simp [flat]
  | r :: R, hs, hR => by
    have h1 := hR r (by simp)
    have := qjv hle hs.2.2 (fun z hz => hR z (by simp [hz]))
    rw [km, List.length_append, yR, List.length_cons]
    rw [show ((R.length + 1 : Nat) : Int) = (R.length : Int) + 1 from by omega, Int.mul_add]
    omega
theorem qoH {least many node q : Int} (hle : 2 ≤ least) {R : List (Int × Int)} (P T : List Int) (hR : ∀ r ∈ R, RunOk r ∧ least ≤ r.2) (hn : Nd node) (hs : Sep q R) (hm : ((flat R).length : Int) ≤ many) (hmm : many ≤ 300) :
    rrns (P ++ (encR least node R ++ T)) P.length node least many = some (R, P.length + (encR least node R).length) := by
  unfold rrns encR
  have h1 := qjv hle hs (fun r hr => (hR r hr).2)
  have h2 : (R.length : Int) ≤ many / least := by
    rw [Int.le_ediv_iff_mul_le (by omega)]
    rw [Int.mul_comm] at h1
    omega
  have h3 : many / least ≤ many := Int.ediv_le_self _ (by omega)
  rw [List.append_assoc, qeB (by omega) h2]
  simp only [Option.bind_some, Int.toNat_natCast]
  have := qnc (least := least) (many := many) (by omega) R false node q (P ++ ga R.length) T (fun r hr => ⟨(hR r hr).1, (hR r hr).2, by have := qfx hr; omega⟩) hn hs (by simp)
  simp only [List.append_assoc, List.length_append] at this
  rw [this]
  congr 2
  rw [List.length_append]; omega
theorem qjW {rest : List Int} {least : Int} (h : gkc rest = 0) : skc (encO rest least) = 0 ∧ Ris (-1) (encS rest least) ∧ (flat (encO rest least) ++ encS rest least).Perm rest ∧ (flat (encO rest least)).Pairwise (· ≤ ·) := by
  obtain ⟨hm, hs⟩ := kF.1 h
  unfold encO encS
  by_cases hl : 0 < least
  · rw [if_pos hl, if_pos hl]
    exact ⟨qpv hm hs _, qhy hs _, qkK _ _, qhL (ja (qhy hs _)).1⟩
  · rw [if_neg hl, if_neg hl]
    exact ⟨by decide, hs, by simp [flat], by simp [flat]⟩
theorem qkJ {k : Nat} (h1 : 1 ≤ k) (h2 : k ≤ 16) {node least : Int} (hn : Nd node) {rest out x : List Int} (hr : gkc rest = 0) (hx : gkc x = 0) (hp : (out ++ rest).Perm x) (P T : List Int) :
    rls2 (P ++ (zes k (gp false node (encS rest least)) ++ T)) node k x.length out (encO rest least) P.length = some (x, P.length + (zes k (gp false node (encS rest least))).length) := by
  obtain ⟨e1, e2, e3, e4⟩ := qjW (least := least) hr
  have hrm := (kF.1 hr).1
  have hlen := e3.length_eq
  have hlen2 := hp.length_eq
  rw [List.length_append] at hlen hlen2
  have hrmm : rm (encO rest least) [] = (flat (encO rest least), 0) := qnA e1 (by decide) (by rw [qnj]; simp) (by simp) e4 (by omega)
  unfold rls2
  rw [hrmm]
  simp only [true_and]
  rw [if_pos (by omega), show ((x.length : Int) - out.length - (flat (encO rest least)).length).toNat = (gp false node (encS rest least)).length from by rw [qhH]; omega]
  have h40 : L40 (gp false node (encS rest least)) := fun z hz => by have := qkX hn e2 (by simp) z hz; omega
  have := qj4 h1 h2 P T h40 (qoJ (b := false) hn e2 (by simp))
  rw [List.append_assoc] at this
  rw [this]
  simp only
  have hpx : (out ++ (flat (encO rest least) ++ encS rest least)).Perm x := (List.Perm.append_left out e3).trans hp
  rw [qfl hpx (qhL (qfj hx))]
theorem qkY {k : Nat} (h1 : 1 ≤ k) (h2 : k ≤ 16) {node least : Int} (hn : Nd node) (hle : least = 0 ∨ 2 ≤ least ∧ least ≤ 300) {rest out x : List Int} (hr : gkc rest = 0) (hx : gkc x = 0) (ho : out.Pairwise (· ≤ ·)) (hp : (out ++ rest).Perm x) (P T : List Int) :
    rls1 (P ++ (encL node rest least k ++ T)) node least k x.length out P.length = some (x, P.length + (encL node rest least k).length) := by
  have hlen2 := hp.length_eq
  have hxm := (kF.1 hx).1
  obtain ⟨hrm, hrs⟩ := kF.1 hr
  rw [List.length_append] at hlen2
  unfold rls1 encL
  by_cases h0 : rest = []
  · subst h0
    simp only [List.length_nil, Nat.add_zero] at hlen2
    rw [if_pos (by omega), if_pos rfl]
    rw [List.append_nil] at hp
    have e1 := qfl hp (qhL (qfj hx))
    have e2 := qfl (List.Perm.refl out) ho
    rw [e2] at e1
    rw [e1]; simp
  · have hl0 : rest.length ≠ 0 := by simpa using h0
    rw [if_neg (by omega), if_neg h0]
    by_cases hl : 0 < least
    · obtain ⟨e1, e2, e3, e4⟩ := qjW (least := least) hr
      have hlen := e3.length_eq
      rw [List.length_append] at hlen
      obtain ⟨r1, r2⟩ := qkL hrm hrs
      have hO : encO rest least = spO least (rs rest) := by unfold encO; rw [if_pos hl]
      rw [if_pos hl, if_pos hl, List.append_assoc, qoH (q := -1) (by omega) _ _ (fun r hrr => by rw [hO] at hrr; exact ⟨r2 r (List.mem_filter.1 hrr).1, by simpa using (List.mem_filter.1 hrr).2⟩) hn (by rw [hO]; exact qbS _ r1) (by omega) (by omega)]
      simp only [Option.bind_some]
      have := qkJ (least := least) h1 h2 hn hr hx hp (P ++ encR least node (encO rest least)) T
      simp only [List.append_assoc, List.length_append] at this
      rw [this, List.length_append]
      congr 2
      omega
    · rw [if_neg hl, if_neg hl, List.nil_append]
      have hO : encO rest least = [] := by unfold encO; rw [if_neg hl]
      have := qkJ (least := least) h1 h2 hn hr hx hp P T
      rw [hO] at this
      exact this
theorem qnl {k : Nat} (h1 : 1 ≤ k) (h2 : k ≤ 16) {node back least : Int} {x fr : List Int} (hn : Nd node) (hle : least = 0 ∨ 2 ≤ least ∧ least ≤ 300) (hx : gkc x = 0) (hfr : 0 < back → gkc fr = 0) (P T : List Int) :
    rls (P ++ (enc node x fr back least k ++ T)) P.length node fr back least k = some (x, P.length + (enc node x fr back least k).length) := by
  have hxm := (kF.1 hx).1
  unfold rls enc rstO
  rw [List.append_assoc, qeB (by omega) (by omega)]
  simp only [Option.bind_some]
  by_cases h0 : x = []
  · subst h0
    rw [if_pos (by simp), if_pos rfl]
    simp
  · have hx0 : x.length ≠ 0 := by simpa using h0
    rw [if_neg (by omega), if_neg h0]
    by_cases hb : 0 < back
    · have hfg := hfr hb
      have hfl := (kF.1 hfg).1
      rw [if_pos hb, if_pos hb, if_pos hb]
      have htl := qgo fr x
      have hok : okB true (tbs fr x) = true := qgb _ _ _ _ (by omega) (Or.inl rfl)
      have hsum : bsum (tbs fr x) ≤ 0 + (fr.map (hasB x)).length := qeV _ _ _ (by omega)
      rw [List.length_map] at hsum
      have e1 := qor (many := (fr.length : Int)) (by omega) (bs := tbs fr x) (P ++ ga x.length) (encL node (rst fr x) least k ++ T) hok (fun n hnm => by have := qgg hok n hnm; omega) (by omega)
      simp only [List.append_assoc, List.length_append] at e1
      rw [List.append_assoc, e1]
      simp only [Option.bind_some]
      rw [qnk hfg]
      have hbe := qkG hfg hx
      have hfx : (fr.filter (hasB x)).length ≤ x.length := by rw [hbe]; exact List.length_filter_le _ _
      rw [if_pos ⟨rfl, by simp only; omega⟩]
      have hperm : (fr.filter (hasB x) ++ rst fr x).Perm x := by rw [hbe]; exact qiW _ _
      have := qkY h1 h2 hn hle (qhq hx) hx (qhL ((qfj hfg).sublist List.filter_sublist)) hperm ((P ++ ga x.length) ++ encB (tbs fr x)) T
      simp only [List.append_assoc, List.length_append] at this
      simp only
      rw [show P.length + (ga x.length).length + (encB (tbs fr x)).length = P.length + ((ga x.length).length + (encB (tbs fr x)).length) from by omega, this]
      congr 2
      simp only [List.length_append]; omega
    · rw [if_neg hb, if_neg hb, if_neg hb, List.nil_append]
      have := qkY h1 h2 hn hle hx hx (out := []) (by simp) (by simp) (P ++ ga x.length) T
      simp only [List.append_assoc, List.length_append] at this
      rw [this, List.length_append]
      congr 2
      omega
def hcB (back least k : Int) : Prop := back < 0 ∨ 7 < back ∨ least < 0 ∨ least = 1 ∨ 300 < least ∨ k < 1 ∨ 16 < k
instance hcDec (back least k : Int) : Decidable (hcB back least k) := inferInstanceAs (Decidable (_ ∨ _))
def hcE (back least k : Int) : Int := if hcB back least k then 3 else 0
def scE (node : Int) (fr : List Int) (back : Int) : Int := if Nd node then (if 0 < back then gkc fr else 0) else 3
theorem qfD {F : Nat} {back least k : Int} : jJ F back least k = some (hcE back least k) := by
  unfold jJ hcE
  by_cases h : hcB back least k
  · rw [if_pos (by unfold hcB at h; simp only [Bool.or_eq_true, decide_eq_true_eq, beq_iff_eq]; omega), if_pos h]
  · rw [if_neg (by unfold hcB at h; simp only [Bool.or_eq_true, decide_eq_true_eq, beq_iff_eq]; omega), if_neg h]
theorem qiY {F : Nat} (hF : 20000 ≤ F) {node back least k : Int} {fr : List Int} : qb5 F node fr back least k = some (scE node fr back) := by
  unfold qb5 scE
  rw [qnq]
  by_cases h : Nd node
  · rw [if_neg (by simp [h]), if_pos h]
    by_cases hb : 0 < back
    · rw [if_pos (by simpa using hb), if_pos hb, qey hF]; rfl
    · rw [if_neg (by simpa using hb), if_neg hb]
  · rw [if_pos (by simp [h]), if_neg h]
theorem qkb {back least k : Int} (h : hcE back least k = 0) : (0 ≤ back ∧ back ≤ 7) ∧ (least = 0 ∨ 2 ≤ least ∧ least ≤ 300) ∧ ∃ k' : Nat, k = (k' : Int) ∧ 1 ≤ k' ∧ k' ≤ 16 := by
  unfold hcE at h
  split at h
  · simp at h
  · rename_i h1
    unfold hcB at h1
    exact ⟨by omega, by omega, k.toNat, by omega, by omega, by omega⟩
theorem qkp {node back : Int} {fr : List Int} (h : scE node fr back = 0) : Nd node ∧ (0 < back → gkc fr = 0) := by
  unfold scE at h
  split at h
  · rename_i hn
    refine ⟨hn, fun hb => ?_⟩
    rw [if_pos hb] at h; exact h
  · simp at h
theorem qow {node back : Int} {fr : List Int} (h : Nd node) (h2 : 0 < back → gkc fr = 0) : scE node fr back = 0 := by
  unfold scE
  rw [if_pos h]
  split
  · rename_i hb; exact h2 hb
  · rfl
def srE (m : Int) (b : List Int) (p node : Int) (fr : List Int) (back least k : Int) : Int := if hcE back least k ≠ 0 then hcE back least k else if raOf m b p ≠ 0 then raOf m b p else scE node fr back
def sr (m : Int) (b : List Int) (p node : Int) (fr : List Int) (back least k : Int) : List Int × Int × Int :=
  if srE m b p node fr back least k ≠ 0 then ([], 0, srE m b p node fr back least k) else
  match rdl (bl b m.toNat) p.toNat node fr back least k.toNat with
  | none => ([], 0, 1)
  | some r => (r.1, (r.2 : Int), 0)
theorem qo2 {F k : Nat} (hF : 2000000 ≤ F) (h1 : 1 ≤ k) (h2 : k ≤ 16) {l : List Int} (hl : Bit l) (hm : l.length ≤ 8192) {node back least : Int} {fr : List Int} (hn : Nd node) {p : Nat} (hp : p ≤ l.length) (hfr : 0 < back → gkc fr = 0) (hle : least = 0 ∨ 2 ≤ least ∧ least ≤ 300) :
    qd1 F (l.length : Int) (pk l) (p : Int) node fr back least (k : Int) = some (match rdl l p node fr back least k with | none => ([], 0, 1) | some r => (r.1, (r.2 : Int), 0)) := by
  have := qoD hF h1 h2 hl hm hn hp hfr hle
  unfold qd1
  cases h : rdl l p node fr back least k with
  | none =>
    rw [h] at this
    obtain ⟨a, b, e⟩ := this
    rw [e]; rfl
  | some r =>
    rw [h] at this
    simp only at this
    rw [this]; rfl
theorem qox {m p node back least k : Int} {b fr : List Int} (h : srE m b p node fr back least k = 0) : hcE back least k = 0 ∧ raOf m b p = 0 ∧ scE node fr back = 0 := by
  unfold srE at h
  by_cases h1 : hcE back least k = 0
  · rw [if_neg (by simp [h1])] at h
    by_cases h2 : raOf m b p = 0
    · rw [if_neg (by simp [h2])] at h; exact ⟨h1, h2, h⟩
    · rw [if_pos h2] at h; exact absurd h h2
  · rw [if_pos h1] at h; exact absurd h h1
theorem qih {F : Nat} (hF : 2000000 ≤ F) {m p node back least k : Int} {b fr : List Int} (hb : U8s b) (hm : I64 m) (lb : b.length ≤ 9223372036854775807) : qb2 F m b p node fr back least k = some (sr m b p node fr back least k) := by
  have hj : qaL F m b p node fr back least k (srE m b p node fr back least k) = some (sr m b p node fr back least k) := by
    unfold qaL sr
    by_cases h : srE m b p node fr back least k = 0
    · rw [if_neg (by simp [h]), if_neg (by simp [h])]
      obtain ⟨h1, h2, h3⟩ := qox h
      obtain ⟨k1, k2, k', rfl, k3, k4⟩ := qkb h1
      obtain ⟨n1, n2⟩ := qkp h3
      rcases qkx hb (m := m) (a := p) with hx | ⟨l, i, hl, hlm, rfl, rfl, rfl, hi⟩
      · exact absurd h2 hx
      · rw [qo2 hF k3 k4 hl hlm n1 hi n2 k2]
        simp only [Option.bind_some, Int.toNat_natCast, qg7 hl]
    · rw [if_pos (by simpa using h), if_pos h]
  unfold qb2
  rw [qfD]
  simp only [Option.bind_some]
  by_cases h1 : hcE back least k = 0
  · rw [if_pos (by simpa using h1), qnt hb hm lb]
    simp only [Option.bind_some]
    unfold qaM
    by_cases h2 : raOf m b p = 0
    · have e : srE m b p node fr back least k = scE node fr back := by unfold srE; rw [if_neg (by simp [h1]), if_neg (by simp [h2])]
      rw [if_pos (by simpa using h2), qiY (by omega), ← e]
      exact hj
    · have e : srE m b p node fr back least k = raOf m b p := by unfold srE; rw [if_neg (by simp [h1]), if_pos h2]
      rw [if_neg (by simpa using h2), ← e]
      exact hj
  · have e : srE m b p node fr back least k = hcE back least k := by unfold srE; rw [if_pos h1]
    rw [if_neg (by simpa using h1)]
    unfold qaM
    rw [if_neg (by simpa using h1), ← e]
    exact hj
def swE (node : Int) (x fr : List Int) (back least k : Int) : Int := if hcE back least k ≠ 0 then hcE back least k else if ¬ Nd node then 3 else if gkc x ≠ 0 then gkc x else scE node fr back
def sw (node : Int) (x fr : List Int) (back least k : Int) : Int × List Int × Int :=
  if swE node x fr back least k ≠ 0 then (0, [], swE node x fr back least k) else
  if 8192 < (enc node x fr back least k.toNat).length then (0, [], 8) else (((enc node x fr back least k.toNat).length : Int), pk (enc node x fr back least k.toNat), 0)
theorem qqG {node back least k : Int} {x fr : List Int} (h : swE node x fr back least k = 0) : hcE back least k = 0 ∧ Nd node ∧ gkc x = 0 ∧ (0 < back → gkc fr = 0) := by
  unfold swE at h
  by_cases h1 : hcE back least k = 0
  · rw [if_neg (by simp [h1])] at h
    by_cases h2 : Nd node
    · rw [if_neg (by simpa using h2)] at h
      by_cases h3 : gkc x = 0
      · rw [if_neg (by simp [h3])] at h
        exact ⟨h1, h2, h3, (qkp h).2⟩
      · rw [if_pos h3] at h; exact absurd h h3
    · rw [if_pos h2] at h; simp at h
  · rw [if_pos h1] at h; exact absurd h h1
theorem qqB {node back least k : Int} {x fr : List Int} (h1 : hcE back least k = 0) (h2 : Nd node) (h3 : gkc x = 0) (h4 : 0 < back → gkc fr = 0) : swE node x fr back least k = 0 := by
  unfold swE
  rw [if_neg (by simp [h1]), if_neg (by simpa using h2), if_neg (by simp [h3])]
  exact qow h2 h4
theorem qgZ {F : Nat} (hF : 2000000 ≤ F) {node back least k : Int} {x fr : List Int} : qaR F node x fr back least k = some (sw node x fr back least k) := by
  have hj : j3 F node x fr back least k (swE node x fr back least k) = some (sw node x fr back least k) := by
    unfold j3 sw
    by_cases h : swE node x fr back least k = 0
    · rw [if_neg (by simp [h]), if_neg (by simp [h])]
      obtain ⟨h1, h2, h3, h4⟩ := qqG h
      obtain ⟨k1, k2, k', rfl, k3, k4⟩ := qkb h1
      obtain ⟨l, f, e, hr⟩ := qlt hF k3 k4 h2 h3 h4 k2
      rw [e]
      simp only [Option.bind_some, Int.toNat_natCast]
      cases f with
      | true => have := hr.full rfl; rw [if_pos rfl, if_pos this]
      | false =>
        have e1 := hr.ok rfl
        have e2 := hr.len
        rw [e1] at e2 ⊢
        rw [if_neg (by simp), if_neg (by omega)]
    · rw [if_pos (by simpa using h), if_pos h]
  unfold qaR
  rw [qfD]
  simp only [Option.bind_some]
  by_cases h1 : hcE back least k = 0
  · rw [if_pos (by simpa using h1), qnq]
    unfold j4
    by_cases h2 : Nd node
    · rw [if_neg (by simp [h2])]
      unfold vE
      rw [if_pos (by simpa using h1), qey (by omega)]
      simp only [Option.bind_some]
      unfold vG
      by_cases h3 : gkc x = 0
      · have e : swE node x fr back least k = scE node fr back := by unfold swE; rw [if_neg (by simp [h1]), if_neg (by simpa using h2), if_neg (by simp [h3])]
        rw [if_pos (by simpa using h3), qiY (by omega), ← e]
        exact hj
      · have e : swE node x fr back least k = gkc x := by unfold swE; rw [if_neg (by simp [h1]), if_neg (by simpa using h2), if_pos h3]
        rw [if_neg (by simpa using h3), ← e]
        exact hj
    · have e : swE node x fr back least k = 3 := by unfold swE; rw [if_neg (by simp [h1]), if_pos h2]
      rw [if_pos (by simp [h2])]
      unfold vE
      rw [if_neg (by decide)]
      unfold vG
      rw [if_neg (by decide), ← e]
      exact hj
  · have e : swE node x fr back least k = hcE back least k := by unfold swE; rw [if_pos h1]
    rw [if_neg (by simpa using h1)]
    unfold j4
    rw [if_neg (by simp)]
    unfold vE
    rw [if_neg (by simpa using h1)]
    unfold vG
    rw [if_neg (by simpa using h1), ← e]
    exact hj
theorem qpF {k : Nat} (h1 : 1 ≤ k) (h2 : k ≤ 16) {node back least : Int} {x fr : List Int} (hn : Nd node) (hle : least = 0 ∨ 2 ≤ least ∧ least ≤ 300) (hx : gkc x = 0) (hfr : 0 < back → gkc fr = 0) (P T : List Int) (hL : (enc node x fr back least k).length ≤ 8192) :
    rdl (P ++ (enc node x fr back least k ++ T)) P.length node fr back least k = some (x, P.length + (enc node x fr back least k).length) := by
  unfold rdl
  rw [qnl h1 h2 hn hle hx hfr]
  simp only [Option.bind_some]
  rw [if_pos (by refine ⟨hx, hL, ?_, ?_⟩ <;> simp)]
theorem qoW {k : Nat} {l : List Int} {p : Nat} {node back least : Int} {fr : List Int} {r : List Int × Nat} (hl : Bit l) (h1 : 1 ≤ k) (h : rdl l p node fr back least k = some r) :
    gkc r.1 = 0 ∧ (enc node r.1 fr back least k).length ≤ 8192 ∧ p + (enc node r.1 fr back least k).length = r.2 ∧ (l.drop p).take (enc node r.1 fr back least k).length = enc node r.1 fr back least k ∧ r.2 ≤ l.length := by
  unfold rdl at h
  rw [Option.bind_eq_some_iff] at h
  obtain ⟨r', h2, h⟩ := h
  split at h
  · rename_i hc
    simp only [Option.some.injEq] at h
    subst h
    exact ⟨hc.1, hc.2.1, hc.2.2.1, hc.2.2.2, qoa hl h1 h2⟩
  · simp at h
theorem qmy {node back least : Int} {x fr : List Int} {k : Nat} : Bit (enc node x fr back least k) := by
  have hn : Bit ([] : List Int) := by intro z hz; simp at hz
  have h1 : ∀ (bs : List Int) (b : Bool), Bit (encBs b bs) := by
    intro bs
    induction bs with
    | nil => intro b; exact hn
    | cons n bs ih => intro b; exact jk (qfZ _) (ih true)
  have h2 : ∀ (R : List (Int × Int)) (b : Bool) (a : Int), Bit (encRs least b a R) := by
    intro R
    induction R with
    | nil => intro b a; exact hn
    | cons r R ih => intro b a; exact jk (qfZ _) (jk (qfZ _) (ih true _))
  unfold enc encL encB encR
  refine jk (qfZ _) ?_
  split
  · exact hn
  · refine jk ?_ ?_
    · split
      · exact jk (qfZ _) (h1 _ _)
      · exact hn
    · split
      · exact hn
      · refine jk ?_ (qmu _ _)
        split
        · exact jk (qfZ _) (h2 _ _ _)
        · exact hn
theorem qon {node back least k : Int} {x fr : List Int} (h : swE node x fr back least k = 0) (h2 : (enc node x fr back least k.toNat).length ≤ 8192) : sw node x fr back least k = (((enc node x fr back least k.toNat).length : Int), pk (enc node x fr back least k.toNat), 0) := by
  unfold sw; rw [if_neg (by simp [h]), if_neg (by omega)]
theorem qqn {node back least k : Int} {x fr : List Int} (h : (sw node x fr back least k).2.2 ≠ 0) : sw node x fr back least k = (0, [], (sw node x fr back least k).2.2) := by
  unfold sw at h ⊢
  split
  · rfl
  · rename_i h1
    split
    · rfl
    · rename_i h2
      rw [if_neg h1, if_neg h2] at h
      exact absurd rfl h
theorem qqm {node back least k : Int} {x fr : List Int} (h : (sw node x fr back least k).2.2 = 0) : swE node x fr back least k = 0 ∧ (enc node x fr back least k.toNat).length ≤ 8192 := by
  unfold sw at h
  split at h
  · rename_i h1; exact absurd h h1
  · rename_i h1
    split at h
    · simp at h
    · exact ⟨by simpa using h1, by omega⟩
theorem qqN {l : List Int} (hl : Bit l) (hm : l.length ≤ 8192) {p : Nat} (hp : p ≤ l.length) {node back least k : Int} {fr : List Int} (h1 : hcE back least k = 0) (h2 : scE node fr back = 0) :
    sr (l.length : Int) (pk l) (p : Int) node fr back least k = match rdl l p node fr back least k.toNat with | none => ([], 0, 1) | some r => (r.1, (r.2 : Int), 0) := by
  have e : srE (l.length : Int) (pk l) (p : Int) node fr back least k = 0 := by
    unfold srE
    rw [if_neg (by simp [h1]), qpm hm hp, if_neg (by simp), h2]
  unfold sr
  rw [if_neg (by simp [e])]
  simp only [Int.toNat_natCast, qg7 hl]
theorem sbegun {F : Nat} (hF : 2000000 ≤ F) : qcU F = some true := by
  have n1 : Nd 7 := ⟨by omega, by omega⟩
  have g1 : gkc [2, 3, 4, 5, 9, 20] = 0 := by decide
  have g2 : gkc [3, 9, 11] = 0 := by decide
  have e1 : swE 7 [2, 3, 4, 5, 9, 20] [3, 9, 11] 1 3 2 = 0 := qqB (by decide) n1 g1 (fun _ => g2)
  have l1 : (enc 7 [2, 3, 4, 5, 9, 20] [3, 9, 11] 1 3 2).length ≤ 8192 := by decide +kernel
  have w1 := qon e1 l1
  rw [show ((2 : Int).toNat) = 2 from rfl] at w1
  have hb := qmy (node := 7) (x := [2, 3, 4, 5, 9, 20]) (fr := [3, 9, 11]) (back := 1) (least := 3) (k := 2)
  have r1 := qqN (p := 0) hb l1 (by omega) (node := 7) (back := 1) (least := 3) (k := 2) (fr := [3, 9, 11]) (by decide) (qow n1 (fun _ => g2))
  have r2 := qpF (k := 2) (by omega) (by omega) (node := 7) (back := 1) (least := 3) (x := [2, 3, 4, 5, 9, 20]) (fr := [3, 9, 11]) n1 (by omega) g1 (fun _ => g2) [] [] l1
  simp only [List.nil_append, List.append_nil, List.length_nil, Nat.zero_add] at r2
  rw [show ((2 : Int).toNat) = 2 from rfl, r2] at r1
  have w2 : sw 7 [] [] 0 0 1 = (1, [128], 0) := by decide +kernel
  have r3 : sr 0 [] 0 7 [] 0 0 1 = ([], 0, 1) := by decide +kernel
  unfold qcU
  rw [qgZ hF, w1]
  simp only [Option.bind_some]
  rw [qih hF (qh4 hb) (qpK l1) (qpL l1), show (0 : Int) = ((0 : Nat) : Int) from rfl, r1, qgZ hF]
  simp only [Option.bind_some]
  rw [show ((0 : Nat) : Int) = 0 from rfl, w2, qih hF (by intro y hy; simp at hy) ⟨by omega, by omega⟩ (by simp), r3]
  simp only [Option.bind_some, beq_self_eq_true, if_true]
  rw [qmp (by simp; omega) (by simp)]
  simp only [Option.bind_some]
  unfold qbe
  rw [if_pos (by simp), qjc (by simp; omega) (by simp)]
  simp only [Option.bind_some]
  unfold qa3
  rw [if_pos (by simp), qfD]
  rfl
theorem qj6 {F : Nat} {b l k : Int} : qa6 F b l k = some (hcE b l k) := by
  unfold qa6 jZ qbz jZ qbC kH hcE
  simp only [Option.bind_some]
  by_cases h1 : 0 ≤ b ∧ b ≤ 7
  · have e1 : (!(decide (0 ≤ b) && decide (b ≤ 7))) = false := by simp; omega
    rw [e1, if_neg (by simp)]
    by_cases h3 : 1 ≤ k ∧ k ≤ 16
    · have e3 : (!(decide (1 ≤ k) && decide (k ≤ 16))) = false := by simp; omega
      by_cases h2 : l = 0
      · rw [if_neg (by simp [h2]), if_neg (by simp), e3, if_neg (by simp), if_neg (show ¬ hcB b l k from by unfold hcB; omega)]
      · rw [if_pos (by simpa using h2)]
        by_cases h4 : 2 ≤ l ∧ l ≤ 300
        · have e4 : (!(decide (2 ≤ l) && decide (l ≤ 300))) = false := by simp; omega
          rw [e4, if_neg (by simp), e3, if_neg (by simp), if_neg (show ¬ hcB b l k from by unfold hcB; omega)]
        · have e4 : (!(decide (2 ≤ l) && decide (l ≤ 300))) = true := by simp; omega
          rw [e4, if_pos rfl, if_pos (by trivial), if_pos (show hcB b l k from by unfold hcB; omega)]
    · have e3 : (!(decide (1 ≤ k) && decide (k ≤ 16))) = true := by simp; omega
      by_cases h2 : l = 0
      · rw [if_neg (by simp [h2]), if_neg (by simp), e3, if_pos (by trivial), if_pos (show hcB b l k from by unfold hcB; omega)]
      · rw [if_pos (by simpa using h2)]
        by_cases h4 : 2 ≤ l ∧ l ≤ 300
        · have e4 : (!(decide (2 ≤ l) && decide (l ≤ 300))) = false := by simp; omega
          rw [e4, if_neg (by simp), e3, if_pos (by trivial), if_pos (show hcB b l k from by unfold hcB; omega)]
        · have e4 : (!(decide (2 ≤ l) && decide (l ≤ 300))) = true := by simp; omega
          rw [e4, if_pos rfl, if_pos (by trivial), if_pos (show hcB b l k from by unfold hcB; omega)]
  · have e1 : (!(decide (0 ≤ b) && decide (b ≤ 7))) = true := by simp; omega
    rw [e1, if_pos rfl, if_pos (by trivial), if_pos (by trivial), if_pos (show hcB b l k from by unfold hcB; omega)]
theorem qkT {F : Nat} (hF : 20000 ≤ F) {node back least k : Int} {fr : List Int} : qc8 F node fr back least k = some (scE node fr back) := by
  unfold qc8 kH scE
  simp only [Option.bind_some]
  by_cases h1 : 0 ≤ node ∧ node ≤ 1048576
  · rw [if_neg (by simp; omega), if_pos (show Nd node from h1)]
    by_cases h2 : 0 < back
    · rw [if_pos (by simpa using h2), if_pos h2, qeq hF]; rfl
    · rw [if_neg (by simpa using h2), if_neg h2]
  · rw [if_pos (by simp; omega), if_neg (show ¬ Nd node from h1)]
theorem rgl {F : Nat} (hF : 20000 ≤ F) {n : Int} (h0 : 0 ≤ n) (hn : n ≤ 1099511627776) : kQ F (iconv .u64 n) = some (ga n.toNat) := by
  obtain ⟨m, rfl⟩ := Int.eq_ofNat_of_zero_le h0
  rw [yK (by omega), qgm hF (by omega), Int.toNat_natCast]
theorem qkQ {F k : Nat} (hF : 20000 ≤ F) (h1 : 1 ≤ k) (h2 : k ≤ 16) {S rest : List Int} {node q : Int} (hn : Nd node) (hm : rest.length ≤ 300) (hs : Ris q rest) (hS : S.length ≤ 1000000) :
    js F node (k : Int) S rest = some (S ++ zes k (gp false node rest)) := by
  unfold js
  rw [qnu hF hm hn hs]
  simp only [Option.bind_some]
  have hl := qhH false node rest
  have h40 : L40 (gp false node rest) := fun x hx => by
    have := qkX hn hs (fun h => by simp at h) x hx
    omega
  have hz := qg0 (F := F) hF h1 h2 h40 (by omega) F 0 [] (by omega) (Nat.zero_le _) (by simp; omega)
  have hz' : yz F (gp false node rest) (k : Int) F ([], 0) = _ := hz
  unfold qef
  rw [hz', List.drop_zero, List.nil_append]
  simp only [Option.bind_some]
  have := qmR h2 h40
  rw [zU (by omega)]
  rfl
theorem qnr {F k : Nat} (hF : 20000 ≤ F) (hk1 : 1 ≤ k) (hk2 : k ≤ 16) {node q0 : Int} {R : List (Int × Int)} {rest : List Int} {least : Int} (hn : Nd node) (hm : R.length ≤ 300) (hR : ∀ r ∈ R, RunOk r ∧ least ≤ r.2) (hle : 0 ≤ least) (hrm : rest.length ≤ 300) (hrs : Ris q0 rest) :
    ∀ (j i : Nat) (S : List Int), R.length < j + i → i ≤ R.length → S.length + 200 * (R.length - i) ≤ 900000 → (∃ q, Sep q (R.drop i)) → (∀ h : 0 < i, ∃ q, Sep q (R.drop (i - 1))) →
    kL F node least (k : Int) (R, rest) j (S, (i : Int)) = some (S ++ (encRs least (decide (0 < i)) (if h : 0 < i ∧ i ≤ R.length then (R[i - 1]'(by omega)).1 + (R[i - 1]'(by omega)).2 - 1 else node) (R.drop i) ++ zes k (gp false node rest)))
  | 0, _, _, _, _, _, _, _ => by omega
  | j + 1, i, S, h, hi, hS, hs, hs1 => by
    show qa7 F node least (k : Int) (R, rest) (kL F node least (k : Int) (R, rest) j) S (i : Int) = _
    unfold qa7
    by_cases hlt : i < R.length
    · obtain ⟨hro, hrl⟩ := hR R[i] (List.getElem_mem hlt)
      unfold RunOk at hro
      unfold Nd at hn
      rw [if_pos (by simp; omega), List.drop_eq_getElem_cons hlt]
      have hj : ∀ (g : Nat), g ≤ 1099511627776 → jn F (kL F node least (k : Int) (R, rest) j) least (R, rest) (i : Int) (S ++ ga g) = some (S ++ (ga g ++ (ga (R[i].2 - least).toNat ++ encRs least true (R[i].1 + R[i].2 - 1) (R.drop (i + 1)))) ++ zes k (gp false node rest)) := fun g hg => by
        unfold jn
        have hg1 := qfN hg
        have hg2 := qfN (n := (R[i].2 - least).toNat) (by omega)
        rw [zn, List.getElem?_eq_getElem hlt]
        simp only [Option.bind_some]
        rw [zo (by omega) (by omega), rgl hF (by omega) (by omega)]
        simp only [Option.bind_some]
        rw [zU (by rw [List.length_append]; omega)]
        simp only [Option.bind_some]
        rw [zg (by omega)]
        obtain ⟨q, hsp⟩ := hs
        rw [List.drop_eq_getElem_cons hlt] at hsp
        rw [qnr hF hk1 hk2 (by unfold Nd; omega) hm hR hle hrm hrs j (i + 1) _ (by omega) (by omega) (by simp only [List.length_append]; omega) ⟨_, hsp.2.2⟩ (fun _ => by
          rw [Nat.add_sub_cancel, List.drop_eq_getElem_cons hlt]; exact ⟨q, hsp⟩)]
        have hc : 0 < i + 1 ∧ i + 1 ≤ R.length := ⟨by omega, by omega⟩
        rw [dif_pos hc]
        simp only [Nat.add_sub_cancel, Nat.zero_lt_succ, decide_true]
        simp only [List.append_assoc]
      by_cases h0 : i = 0
      · subst h0
        have hf := qeA (x := R[0].1 - node) (by omega)
        rw [if_pos (by simp)]
        have e0 : idx R 0 = some R[0] := by
          show idx R ((0 : Nat) : Int) = _
          rw [zn, List.getElem?_eq_getElem hlt]
        rw [e0]
        simp only [Option.bind_some]
        rw [zo (by omega) (by omega), qjp F (by omega) (by omega)]
        simp only [Option.bind_some]
        obtain ⟨g, hg⟩ := Int.eq_ofNat_of_zero_le hf.1
        rw [hg, qgm hF (by omega)]
        simp only [Option.bind_some]
        have hg1 := qfN (n := g) (by omega)
        rw [zU (by omega)]
        simp only [Option.bind_some]
        rw [hj g (by omega)]
        simp only [encRs, Nat.lt_irrefl, decide_false, Bool.false_eq_true, if_false, false_and, dite_false]
        rw [hg, Int.toNat_natCast]
        simp only [List.append_assoc]
      · have hi0 : 0 < i := by omega
        obtain ⟨q1, hq1⟩ := hs1 hi0
        have hlt1 : i - 1 < R.length := by omega
        rw [List.drop_eq_getElem_cons hlt1, show i - 1 + 1 = i from by omega, List.drop_eq_getElem_cons hlt] at hq1
        obtain ⟨a1, a2, a3⟩ := hq1
        obtain ⟨b1, b2, b3⟩ := a3
        obtain ⟨hro1, hrl1⟩ := hR R[i - 1] (List.getElem_mem hlt1)
        unfold RunOk at hro1
        rw [if_neg (by simp; omega), zn, List.getElem?_eq_getElem hlt, qaq (by omega) (by omega), zn, List.getElem?_eq_getElem hlt1]
        simp only [Option.bind_some]
        rw [zb (by omega) (by omega), zo (a := R[i - 1].1 + R[i - 1].2) (by omega) (by omega), zo (a := R[i].1) (by omega) (by omega), zo (by omega) (by omega), rgl hF (by omega) (by omega)]
        simp only [Option.bind_some]
        have hg1 := qfN (n := (R[i].1 - (R[i - 1].1 + R[i - 1].2 - 1) - 2).toNat) (by omega)
        rw [zU (by omega)]
        simp only [Option.bind_some]
        rw [hj _ (by omega)]
        rw [dif_pos ⟨hi0, by omega⟩]
        simp only [encRs, hi0, decide_true, if_true]
        simp only [List.append_assoc]
    · rw [if_neg (by simp; omega), List.drop_eq_nil_of_le (by omega)]
      rw [qkQ hF hk1 hk2 hn hrm hrs (by omega)]
      simp [encRs]
theorem qk9 {F k : Nat} (hF : 2000000 ≤ F) (h1 : 1 ≤ k) (h2 : k ≤ 16) {S rest : List Int} {node least : Int} (hn : Nd node) (hg : gkc rest = 0) (hS : S.length ≤ 500000) : yX F node least (k : Int) S rest = some (S ++ encL node rest least k) := by
  obtain ⟨hm, hs⟩ := kF.1 hg
  unfold yX encL encO encS
  by_cases h0 : rest = []
  · subst h0
    rw [if_pos (by simp), if_pos rfl, List.append_nil]
  · have hlen : rest.length ≠ 0 := by simpa using h0
    rw [if_neg (by simp; exact h0), if_neg h0]
    by_cases hl : 0 < least
    · rw [if_pos (by simpa using hl), if_pos hl, if_pos hl, if_pos hl, qnR hF hm hs]
      simp only [Option.bind_some]
      obtain ⟨s1, s2⟩ := qmX (least := least) hm hs
      obtain ⟨r1, r2⟩ := qkL hm hs
      rw [rgl (by omega) (by omega) (by omega), Int.toNat_natCast]
      simp only [Option.bind_some]
      have hg1 := qfN (n := (spO least (rs rest)).length) (by omega)
      rw [zU (by omega)]
      simp only [Option.bind_some]
      have hsep : Sep (-1) (spO least (rs rest)) := qbS _ r1
      have := qnr (F := F) (by omega) h1 h2 (R := spO least (rs rest)) (rest := flat (spS least (rs rest))) (least := least) (q0 := -1) hn (by omega) (fun r hr => ⟨r2 r (List.mem_filter.1 hr).1, by simpa using (List.mem_filter.1 hr).2⟩) (by omega) s2 (qhy hs _) F 0 (S ++ ga (spO least (rs rest)).length) (by omega) (Nat.zero_le _) (by rw [List.length_append]; omega) ⟨_, hsep⟩ (fun h => absurd h (by omega))
      have this' : kL F node least (k : Int) (spO least (rs rest), flat (spS least (rs rest))) F (S ++ ga (spO least (rs rest)).length, 0) = _ := this
      rw [this', List.drop_zero]
      simp only [Nat.lt_irrefl, decide_false, false_and, dite_false, encR, List.append_assoc]
    · rw [if_neg (by simpa using hl), if_neg hl, if_neg hl, List.nil_append]
      exact qkQ (by omega) h1 h2 hn hm hs (by omega)
theorem qn9 {F k : Nat} (hF : 2000000 ≤ F) {bs rest : List Int} {node least : Int} (hm : bs.length ≤ 301) (hb : ∀ n ∈ bs, n ≤ 1000000) : ∀ (j i : Nat) (S : List Int), bs.length < j + i → i ≤ bs.length → S.length + 100 * (bs.length - i) ≤ 400000 → okB (decide (i = 0)) (bs.drop i) = true →
    kK F node least (k : Int) (bs, rest) j (S, (i : Int)) = yX F node least (k : Int) (S ++ encBs (decide (0 < i)) (bs.drop i)) rest
  | 0, _, _, _, _, _, _ => by omega
  | j + 1, i, S, h, hi, hS, hok => by
    show qaT F node least (k : Int) (bs, rest) (kK F node least (k : Int) (bs, rest) j) S (i : Int) = _
    unfold qaT
    by_cases hlt : i < bs.length
    · have hbi := hb _ (List.getElem_mem hlt)
      rw [if_pos (by simp; omega), zn, List.getElem?_eq_getElem hlt, List.drop_eq_getElem_cons hlt]
      simp only [Option.bind_some]
      rw [List.drop_eq_getElem_cons hlt, qew] at hok
      simp only [Bool.and_eq_true] at hok
      have h0 : 0 ≤ bs[i] := by simpa using hok.1.1
      have h1 : 0 < i → 1 ≤ bs[i] := fun hi0 => by
        have := hok.1.2
        have e : decide (i = 0) = false := by simp; omega
        rw [e] at this
        simp at this
        omega
      have hstep : ∀ x : Int, 0 ≤ x → x ≤ 1000000 → jv F (kK F node least (k : Int) (bs, rest) j) S (i : Int) x = yX F node least (k : Int) (S ++ (ga x.toNat ++ encBs true (bs.drop (i + 1)))) rest := fun x hx0 hx1 => by
        unfold jv
        rw [rgl (by omega) hx0 (by omega)]
        simp only [Option.bind_some]
        have hg := qfN (n := x.toNat) (by omega)
        rw [zU (by omega)]
        simp only [Option.bind_some]
        rw [zg (by omega), qn9 hF hm hb j (i + 1) _ (by omega) (by omega) (by rw [List.length_append]; omega) (by
          have := hok.2
          have e : decide (i + 1 = 0) = false := by simp
          rw [e]; exact this)]
        simp only [Nat.zero_lt_succ, decide_true, List.append_assoc]
      by_cases hi0 : 0 < i
      · rw [if_pos (by simp; omega), zo (by omega) (by omega), hstep _ (by have := h1 hi0; omega) (by omega)]
        simp only [encBs, hi0, decide_true, if_true]
      · rw [if_neg (by simp; omega), hstep _ h0 hbi]
        simp only [encBs, hi0, decide_false, Bool.false_eq_true, if_false, Int.sub_zero]
    · rw [if_neg (by simp; omega), List.drop_eq_nil_of_le (by omega)]
      simp [encBs]
theorem qgV {F k : Nat} (hF : 2000000 ≤ F) (h1 : 1 ≤ k) (h2 : k ≤ 16) {x fr : List Int} {node back least : Int} (hn : Nd node) (hg : gkc x = 0) (hfr : 0 < back → gkc fr = 0) :
    qca F node x fr back least (k : Int) = some (enc node x fr back least k) := by
  obtain ⟨hm, hs⟩ := kF.1 hg
  unfold qca enc rstO
  rw [rgl (by omega) (by omega) (by omega), Int.toNat_natCast]
  simp only [Option.bind_some]
  have hg1 := qfN (n := x.length) (by omega)
  by_cases h0 : x = []
  · subst h0
    rw [if_pos (by simp), if_pos rfl, List.append_nil]
  · rw [if_neg (by simpa using h0), if_neg h0]
    by_cases hb : 0 < back
    · have hfg := hfr hb
      have hfl := (kF.1 hfg).1
      rw [if_pos (by simpa using hb), if_pos hb, if_pos hb, qmc (by omega) hfl hm]
      simp only [Option.bind_some]
      have htl := qgo fr x
      have hok : okB true (tbs fr x) = true := qgb _ _ _ _ (by omega) (Or.inl rfl)
      have hsum : bsum (tbs fr x) ≤ 0 + (fr.map (hasB x)).length := qeV _ _ _ (by omega)
      rw [List.length_map] at hsum
      have hbd : ∀ n ∈ tbs fr x, n ≤ 1000000 := fun n hnm => by
        have := qgg hok n hnm
        omega
      rw [rgl (by omega) (by omega) (by omega), Int.toNat_natCast]
      simp only [Option.bind_some]
      have hg2 := qfN (n := (tbs fr x).length) (by omega)
      rw [zU (by omega)]
      simp only [Option.bind_some]
      have hbl := qn9 (F := F) (k := k) (rest := rst fr x) (node := node) (least := least) hF (bs := tbs fr x) (by omega) hbd F 0 (ga x.length ++ ga (tbs fr x).length) (by omega) (Nat.zero_le _) (by rw [List.length_append]; omega) (by simpa using hok)
      have hbl' : kK F node least (k : Int) (tbs fr x, rst fr x) F (ga x.length ++ ga (tbs fr x).length, 0) = _ := hbl
      have hlen : (encBs false (tbs fr x)).length ≤ 81 * (tbs fr x).length := by
        have key : ∀ (bs : List Int) (b : Bool), (∀ n ∈ bs, n ≤ 1000000) → (encBs b bs).length ≤ 81 * bs.length := by
          intro bs
          induction bs with
          | nil => intro b _; simp [encBs]
          | cons n bs ih =>
            intro b hn
            have h3 := ih true (fun y hy => hn y (by simp [hy]))
            have h4 := hn n (by simp)
            have h5 := qfN (n := (n - if b then 1 else 0).toNat) (by split <;> omega)
            simp only [encBs, List.length_append, List.length_cons]
            omega
        exact key _ _ hbd
      rw [hbl', List.drop_zero, show decide (0 < 0) = false from rfl, qk9 hF h1 h2 hn (qhq hg) (by simp only [List.length_append]; omega)]
      simp only [encB, List.append_assoc]
    · rw [if_neg (by simpa using hb), if_neg hb, if_neg hb, List.nil_append]
      exact qk9 hF h1 h2 hn hg (by omega)
theorem qmr {F : Nat} (hF : 2000000 ≤ F) {node back least k : Int} {x fr : List Int} : qc0 F node x fr back least k = some (sw node x fr back least k) := by
  unfold qc0 qba qa8 qbc qaX kH
  rw [qj6]
  simp only [Option.bind_some]
  by_cases h1 : hcE back least k = 0
  · rw [if_pos (by simp [h1])]
    by_cases h2 : Nd node
    · have e2 : (!(decide (0 ≤ node) && decide (node ≤ 1048576))) = false := by unfold Nd at h2; simp; omega
      rw [e2, if_neg (by simp), if_pos (by simp [h1]), qeq (by omega)]
      simp only [Option.bind_some]
      by_cases h3 : gkc x = 0
      · rw [if_pos (by simp [h3]), qkT (by omega)]
        simp only [Option.bind_some]
        have hE : swE node x fr back least k = scE node fr back := by
          unfold swE
          rw [if_neg (by simp [h1]), if_neg (by simpa using h2), if_neg (by simp [h3])]
        by_cases h4 : scE node fr back = 0
        · rw [if_neg (by simp [h4])]
          obtain ⟨_, _, k', rfl, hk1, hk2⟩ := qkb h1
          rw [qgV hF hk1 hk2 h2 h3 (qkp h4).2]
          simp only [Option.bind_some]
          by_cases h5 : 8192 < (enc node x fr back least k').length
          · rw [if_pos (by simp; omega)]
            unfold sw
            rw [hE, if_neg (by simp [h4]), Int.toNat_natCast, if_pos h5]
          · rw [if_neg (by simp; omega), qlc (by omega) qmy (by omega)]
            have := qon (node := node) (x := x) (fr := fr) (back := back) (least := least) (k := (k' : Int)) (by rw [hE]; exact h4) (by rw [Int.toNat_natCast]; omega)
            rw [this, Int.toNat_natCast]
            rfl
        · rw [if_pos (by simpa using h4)]
          unfold sw
          rw [hE, if_pos h4]
      · rw [if_neg (by simpa using h3), if_pos (by simpa using h3)]
        have hE : swE node x fr back least k = gkc x := by
          unfold swE
          rw [if_neg (by simp [h1]), if_neg (by simpa using h2), if_pos h3]
        unfold sw
        rw [hE, if_pos h3]
    · have e2 : (!(decide (0 ≤ node) && decide (node ≤ 1048576))) = true := by unfold Nd at h2; simp; omega
      rw [e2, if_pos rfl, if_neg (by simp), if_neg (by simp), if_pos (by simp)]
      have hE : swE node x fr back least k = 3 := by
        unfold swE
        rw [if_neg (by simp [h1]), if_pos h2]
      unfold sw
      rw [hE, if_pos (by simp)]
  · rw [if_neg (by simpa using h1), if_neg (by simp), if_neg (by simpa using h1), if_neg (by simpa using h1), if_pos (by simpa using h1)]
    have hE : swE node x fr back least k = hcE back least k := by
      unfold swE
      rw [if_pos h1]
    unfold sw
    rw [hE, if_pos h1]
theorem qjE {x : Int} (h0 : 0 ≤ x) (h1 : x ≤ 1000000) : iadd .u64 x 1 = x + 1 := by
  obtain ⟨n, rfl⟩ := Int.eq_ofNat_of_zero_le h0
  rw [qdm (by omega)]; omega
theorem qje {F : Nat} {rec158 : (List Int × Int) → Option (List Int)} {l out : List Int} {i : Nat} {x : Int} (hx : l[i]? = some x) (ho : out.length ≤ 1000000) : ∀ (j a : Nat), a < j → a ≤ out.length → (∀ z ∈ out.drop a, x ≤ z) → out.Pairwise (· ≤ ·) →
    ∃ p : Nat, p ≤ out.length ∧ yY F rec158 l out (i : Int) j (a : Int) = qbA F rec158 l out (i : Int) (p : Int) ∧ (∀ z ∈ out.drop p, x ≤ z) ∧ (∀ z ∈ out.take p, z ≤ x)
  | 0, _, h, _, _, _ => by omega
  | j + 1, a, h, ha, hd, hp => by
    show ∃ p : Nat, p ≤ out.length ∧ qbK F rec158 l out (i : Int) (yY F rec158 l out (i : Int) j) (a : Int) = _ ∧ _
    unfold qbK
    by_cases h0 : 0 < a
    · have hlt : a - 1 < out.length := by omega
      rw [if_pos (by simpa using h0), qaq (by omega) (by omega), zn, List.getElem?_eq_getElem hlt, zn, hx]
      simp only [Option.bind_some]
      unfold qbG
      by_cases h1 : x < out[a - 1]
      · rw [if_pos (by simpa using h1), qaq (by omega) (by omega)]
        refine qje hx ho j (a - 1) (by omega) (by omega) (fun z hz => ?_) hp
        rw [List.drop_eq_getElem_cons hlt, show a - 1 + 1 = a from by omega] at hz
        rcases List.mem_cons.1 hz with rfl | hz
        · omega
        · exact hd z hz
      · rw [if_neg (by simpa using h1)]
        refine ⟨a, ha, rfl, hd, fun z hz => ?_⟩
        obtain ⟨q, hq, rfl⟩ := List.mem_iff_getElem.1 hz
        rw [List.length_take] at hq
        rw [List.getElem_take]
        by_cases hqa : q = a - 1
        · subst hqa; omega
        · have := (List.pairwise_iff_getElem.1 hp) q (a - 1) (by omega) hlt (by omega)
          omega
    · rw [if_neg (by simpa using h0)]
      refine ⟨a, ha, rfl, hd, fun z hz => ?_⟩
      have : a = 0 := by omega
      subst this
      simp at hz
theorem qqk {out : List Int} {x : Int} {p : Nat} (hp : out.Pairwise (· ≤ ·)) (h1 : ∀ z ∈ out.drop p, x ≤ z) (h2 : ∀ z ∈ out.take p, z ≤ x) : (out.take p ++ [x] ++ out.drop p).Pairwise (· ≤ ·) := by
  rw [List.append_assoc, List.pairwise_append]
  refine ⟨hp.sublist (List.take_sublist _ _), ?_, ?_⟩
  · rw [List.singleton_append, List.pairwise_cons]
    exact ⟨h1, hp.sublist (List.drop_sublist _ _)⟩
  · intro a ha b hb
    rcases List.mem_append.1 hb with hb | hb
    · simp at hb; subst hb; exact h2 a ha
    · have hab := hp
      rw [← List.take_append_drop p out, List.pairwise_append] at hab
      exact hab.2.2 a ha b hb
theorem qlv {F : Nat} {l : List Int} (hF : l.length < F) (hm : l.length ≤ 100000) : ∀ (k i : Nat) (out : List Int), l.length < k + i → i ≤ l.length → out.Perm (l.take i) → out.Pairwise (· ≤ ·) → zJ F l k (out, (i : Int)) = some (srt l)
  | 0, _, _, _, _, _, _ => by omega
  | k + 1, i, out, h, hi, hpm, hp => by
    show qbx F l (zJ F l k) out (i : Int) = _
    unfold qbx
    have hlen := hpm.length_eq
    rw [List.length_take] at hlen
    by_cases hlt : i < l.length
    · rw [if_pos (by simp; omega)]
      obtain ⟨p, hpl, hM, h1, h2⟩ := qje (F := F) (rec158 := zJ F l k) (List.getElem?_eq_getElem hlt) (by omega) F out.length (by omega) (Nat.le_refl _) (by simp) hp
      rw [hM]
      unfold qbA
      have e0 : sub out 0 (p : Int) = some (out.take p) := by
        have := qha (l := out) (i := 0) (j := p) (by omega) hpl
        simpa using this
      rw [e0, zn, List.getElem?_eq_getElem hlt, qha hpl (Nat.le_refl _)]
      simp only [Option.bind_some]
      rw [zU (by simp; omega)]
      simp only [Option.bind_some]
      rw [zU (by simp; omega)]
      simp only [Option.bind_some]
      rw [zU (by simp; omega)]
      simp only [Option.bind_some]
      unfold j8
      rw [zg (by omega), List.nil_append, List.take_length]
      refine qlv hF hm k (i + 1) _ (by omega) (by omega) ?_ (qqk hp h1 h2)
      rw [List.take_add_one, List.getElem?_eq_getElem hlt]
      have e1 : (out.take p ++ [l[i]] ++ out.drop p).Perm (l[i] :: out) := by
        have := List.perm_middle (a := l[i]) (l₁ := out.take p) (l₂ := out.drop p)
        rw [List.take_append_drop] at this
        simpa using this
      refine e1.trans ((List.Perm.cons _ hpm).trans ?_)
      have := List.perm_append_comm (l₁ := [l[i]]) (l₂ := l.take i)
      simpa using this
    · rw [if_neg (by simp; omega)]
      unfold qdO
      rw [List.take_of_length_le (by omega)] at hpm
      rw [qfl hpm.symm hp]
theorem qnV {F : Nat} {l : List Int} (hF : l.length < F) (hm : l.length ≤ 100000) : qeI F l = some (srt l) := by
  unfold qeI
  exact qlv hF hm F 0 [] (by omega) (Nat.zero_le _) (by simp) (by simp)
def gGap (l : List Int) (k : Nat) (node many : Int) (out : List Int) (p : Nat) : List Int × Bool :=
  match gfr l k (many - out.length).toNat false node p with
  | .inl _ => ([], false)
  | .inr g => (srt (out ++ g.1), true)
def gFst (b : Bool) (e node g : Int) : Int := if b then e + g + 2 else match st false node g with | none => -1 | some n => n
def gRn (l : List Int) (k : Nat) (node least many : Int) : Nat → Bool → Int → List Int → Nat → List Int × Bool
  | 0, _, _, out, p => gGap l k node many out p
  | j + 1, b, e, out, p => match rgam l p 4194304 with
    | none => ([], false)
    | some g => match rgam l g.2 1000 with
      | none => ([], false)
      | some x => if gFst b e node g.1 < 0 ∨ 1048576 < gFst b e node g.1 then ([], false) else
        if many < ((out ++ rng (gFst b e node g.1) (x.1 + least).toNat).length : Int) then ([], false)
        else gRn l k node least many j true (gFst b e node g.1 + x.1 + least - 1) (out ++ rng (gFst b e node g.1) (x.1 + least).toNat) x.2
def gG2 (l : List Int) (k : Nat) (node least many : Int) (out : List Int) (p : Nat) : List Int × Bool :=
  if (out.length : Int) = many then (out, true) else if 0 < least then match rgam l p 300 with
    | none => ([], false)
    | some n => gRn l k node least many n.1.toNat false node out n.2
  else gGap l k node many out p
def gG (l : List Int) (p : Nat) (node : Int) (fr : List Int) (back least : Int) (k : Nat) : List Int × Bool :=
  match rgam l p 300 with
  | none => ([], false)
  | some m => if m.1 = 0 then ([], true) else if 0 < back then match rgam l m.2 (fr.length + 1) with
      | none => ([], false)
      | some n => match rbl l 1000 n.1.toNat false n.2 with
        | none => ([], false)
        | some b => if (cpy fr b.1).2 = 0 ∧ ((cpy fr b.1).1.length : Int) ≤ m.1 then gG2 l k node least m.1 (cpy fr b.1).1 b.2 else ([], false)
    else gG2 l k node least m.1 [] m.2
theorem qgr {F : Nat} (hF : 20000 ≤ F) {l : List Int} (hl : Bit l) (hm : l.length ≤ 8192) {p : Nat} (hp : p ≤ l.length) {most : Int} {K : Int × Int × Int → Option (List Int × Bool)} {G : Int × Nat → List Int × Bool}
    (hN : ∀ g : Int × Int × Int, (g.2.2 ≠ 0 ∨ most < g.1) → K g = some ([], false)) (hS : ∀ (x : Int × Nat), rgam l p most = some x → 0 ≤ x.1 → x.1 ≤ most → x.1 ≤ 1099511627776 → x.2 ≤ l.length → K (x.1, (x.2 : Int), 0) = some (G x)) :
    (k6 F l (p : Int)).bind K = some (match rgam l p most with | none => ([], false) | some x => G x) := by
  rw [qgn hF hl hm hp]
  simp only [Option.bind_some]
  cases hr : rgam l p most with
  | none =>
    refine hN _ ?_
    unfold rgam at hr
    by_cases h1 : (fg l p).2.2 = 0
    · right
      by_cases h2 : (fg l p).1 ≤ most
      · rw [if_pos ⟨h1, h2⟩] at hr; simp at hr
      · omega
    · left; exact h1
  | some x =>
    have hok := jX hr
    have := hS x hr hok.1 hok.2.1 hok.2.2.1 hok.2.2.2
    rw [← this]
    congr 1
    unfold rgam at hr
    split at hr
    · rename_i hc
      simp only [Option.some.injEq] at hr
      rw [← hr]
      have h3 : 0 ≤ (fg l p).2.1 := by
        rcases qnd (l := l) (a := p) with h1 | ⟨n, q, h1, h2, h3⟩
        · exact absurd hc.1 h1
        · rw [h1]; simp
      simp only
      rw [Int.toNat_of_nonneg h3, ← hc.1]
    · simp at hr
theorem qm4 {F k : Nat} (hF : 2000000 ≤ F) (h1 : 1 ≤ k) (h2 : k ≤ 16) {l : List Int} (hl : Bit l) (hm : l.length ≤ 8192) {node many : Int} (hn : Nd node) {out : List Int} (ho : (out.length : Int) ≤ many) (hmm : many ≤ 300) {p : Nat} (hp : p ≤ l.length) {x : Int × Int × Int} (hx : x.1 = many) :
    vL F l node (k : Int) x (p : Int) out = some (gGap l k node many out p) := by
  unfold vL qeS gGap
  rw [hx]
  have e1 : iconv .i64 many = many := kn (by omega) (by omega)
  rw [e1, zo (by omega) (by omega)]
  obtain ⟨n, hnn⟩ := Int.eq_ofNat_of_zero_le (a := many - (out.length : Int)) (by omega)
  rw [hnn]
  have := qh0 (F := F) (k := k) (many := n) (l := l) (by omega) hl hm h1 h2 (by omega) F p node [] (by simp; omega) (by simp) hp hn
  rw [this]
  simp only [Option.bind_some, List.length_nil, Nat.sub_zero, Nat.lt_irrefl, decide_false, Int.toNat_natCast]
  cases hg : gfr l k n false node p with
  | inl e =>
    rw [show gfI ([] : List Int) (.inl e) = ([], 0, e) from rfl, if_pos (by simpa using ql4 hg)]
  | inr r =>
    have hrl := qj2 hg
    rw [show gfI ([] : List Int) (.inr r) = (r.1, (r.2 : Int), 0) from rfl, if_neg (by simp), zU (by simp only; omega)]
    simp only [Option.bind_some]
    rw [qnV (by rw [List.length_append]; omega) (by rw [List.length_append]; omega)]
    rfl
theorem qp4 {F : Nat} {rec64 : (Int × List Int × Int × Int) → Option (List Int × Bool)} {least i f : Int} {x x2 : Int × Int × Int} {out : List Int} (hx0 : 0 ≤ x2.1) (hx : x2.1 ≤ 1000) (hle : 0 ≤ least) (hle2 : least ≤ 300) (hf : 0 ≤ f) (hf2 : f ≤ 1048576) (ho : out.length ≤ 100000) : ∀ (j t : Nat), (x2.1 + least).toNat < j + t → t ≤ (x2.1 + least).toNat →
    yh F rec64 least x i x2 f j (out ++ rng f t, (t : Int)) = vM F rec64 least x i x2 f (out ++ rng f (x2.1 + least).toNat)
  | 0, _, _, _ => by omega
  | j + 1, t, h, ht => by
    show qaD F rec64 least x i x2 f (yh F rec64 least x i x2 f j) (out ++ rng f t) (t : Int) = _
    unfold qaD
    have e1 : iconv .i64 x2.1 = x2.1 := kn (by omega) (by omega)
    rw [e1, zb (a := x2.1) (by omega) (by omega)]
    by_cases hlt : (t : Int) < x2.1 + least
    · rw [if_pos (by simpa using hlt), zb (by omega) (by omega), zU (by rw [List.length_append, yR]; simp; omega)]
      simp only [Option.bind_some]
      rw [zg (by omega), List.append_assoc, ← qfs]
      exact qp4 hx0 hx hle hle2 hf hf2 ho j (t + 1) (by omega) (by omega)
    · rw [if_neg (by simpa using hlt), show t = (x2.1 + least).toNat from by omega]
theorem qpi {F : Nat} {e node g : Int} (hn : Nd node) (hg : U64 g) : qbY F g node true = some (gFst false e node g) := qhY (b := false) hn hg
theorem qoY {F k : Nat} (hF : 2000000 ≤ F) (h1 : 1 ≤ k) (h2 : k ≤ 16) {l : List Int} (hl : Bit l) (hm : l.length ≤ 8192) {node many least : Int} (hn : Nd node) (hmm : many ≤ 300) (hle : 0 < least) (hle2 : least ≤ 300) {x x9 : Int × Int × Int} (hx : x.1 = many) {n : Nat} (hx9 : x9.1 = (n : Int)) (hn3 : n ≤ 300) :
    ∀ (j i p : Nat) (out : List Int) (e : Int), n < j + i → i ≤ n → (out.length : Int) ≤ many → p ≤ l.length → (0 < i → 0 ≤ e ∧ e ≤ 2000000) → (i = 0 → e = node) →
    zz F l node least (k : Int) x x9 j ((p : Int), out, e, (i : Int)) = some (gRn l k node least many (n - i) (decide (0 < i)) e out p)
  | 0, _, _, _, _, _, _, _, _, _, _ => by omega
  | j + 1, i, p, out, e, h, hi, ho, hp, he, he0 => by
    show qaE F l node least (k : Int) x x9 (zz F l node least (k : Int) x x9 j) (p : Int) out e (i : Int) = _
    unfold qaE
    have heb : 0 ≤ e ∧ e ≤ 2000000 := by
      by_cases h0 : 0 < i
      · exact he h0
      · have := he0 (by omega)
        have := hn.1; have := hn.2
        omega
    rw [hx9]
    by_cases hlt : i < n
    · rw [if_pos (by simpa using hlt), show n - i = (n - (i + 1)) + 1 from by omega]
      simp only [gRn]
      refine qgr (most := 4194304) (by omega) hl hm hp (fun g hg => ?_) (fun g hg g0 g1 g2 g3 => ?_)
      · rw [if_pos (by simpa using hg)]
      · simp only
        rw [if_neg (by simp; omega)]
        refine qgr (most := 1000) (by omega) hl hm g3 (fun y hy => ?_) (fun y hy y0 y1 y2 y3 => ?_)
        · rw [if_pos (by simpa using hy)]
        · simp only
          rw [if_neg (by simp; omega)]
          have eg : iconv .i64 g.1 = g.1 := kn (by omega) (by omega)
          unfold lett
          rw [eg, zb (a := e) (by omega) (by omega), zb (a := e + g.1) (by omega) (by omega)]
          have hstep : ∀ f : Int, f = gFst (decide (0 < i)) e node g.1 → vR F (zz F l node least (k : Int) x x9 j) least x out (i : Int) (y.1, (y.2 : Int), 0) f = some (if gFst (decide (0 < i)) e node g.1 < 0 ∨ 1048576 < gFst (decide (0 < i)) e node g.1 then ([], false) else
              if many < ((out ++ rng (gFst (decide (0 < i)) e node g.1) (y.1 + least).toNat).length : Int) then ([], false)
              else gRn l k node least many (n - (i + 1)) true (gFst (decide (0 < i)) e node g.1 + y.1 + least - 1) (out ++ rng (gFst (decide (0 < i)) e node g.1) (y.1 + least).toNat) y.2) := by
            intro f hf
            rw [← hf]
            unfold vR
            by_cases hc : f < 0 ∨ 1048576 < f
            · rw [if_pos (by simpa using hc), if_pos hc]
            · rw [if_neg (by simpa using hc), if_neg hc]
              have hr := qp4 (F := F) (rec64 := zz F l node least (k : Int) x x9 j) (least := least) (i := (i : Int)) (f := f) (x := x) (x2 := (y.1, (y.2 : Int), 0)) (out := out) y0 y1 (by omega) hle2 (by omega) (by omega) (by omega) F 0 (by simp only; omega) (Nat.zero_le _)
              have hr' : yh F (zz F l node least (k : Int) x x9 j) least x (i : Int) (y.1, (y.2 : Int), 0) f F (out, 0) = vM F (zz F l node least (k : Int) x x9 j) least x (i : Int) (y.1, (y.2 : Int), 0) f (out ++ rng f (y.1 + least).toNat) := by
                have e0 : out ++ rng f 0 = out := by simp [rng]
                rw [e0] at hr
                exact hr
              rw [hr']
              unfold vM lett
              have em : iconv .i64 many = many := kn (by omega) (by omega)
              have ey : iconv .i64 y.1 = y.1 := kn (by omega) (by omega)
              simp only
              rw [hx, em, ey]
              by_cases hc2 : many < ((out ++ rng f (y.1 + least).toNat).length : Int)
              · rw [if_pos (by simpa using hc2), if_pos hc2]
              · rw [if_neg (by simpa using hc2), if_neg hc2]
                unfold qb8
                rw [qjE (by omega) (by omega), zb (a := f) (by omega) (by omega), zb (a := f + y.1) (by omega) (by omega), zo (by omega) (by omega), show ((i : Int) + 1) = ((i + 1 : Nat) : Int) from by omega]
                rw [qoY hF h1 h2 hl hm hn hmm hle hle2 hx hx9 hn3 j (i + 1) y.2 _ _ (by omega) (by omega) (by omega) y3 (fun _ => by omega) (fun h => by omega)]
                rw [decide_eq_true (show 0 < i + 1 from by omega)]
          refine Eq.trans ?_ (hstep _ rfl)
          show (if ((i : Int) == 0) = true then _ else _) = _
          by_cases h0 : i = 0
          · rw [if_pos (by simp [h0]), qpi (e := e) hn ⟨g0, by omega⟩, show decide (0 < i) = false from by simp [h0]]
            rfl
          · rw [if_neg (by simp; omega), decide_eq_true (show 0 < i from by omega)]
            rfl
    · rw [if_neg (by simpa using hlt), show n - i = 0 from by omega]
      exact qm4 hF h1 h2 hl hm hn ho hmm hp hx
theorem qo1 {F k : Nat} (hF : 2000000 ≤ F) (h1 : 1 ≤ k) (h2 : k ≤ 16) {l : List Int} (hl : Bit l) (hm : l.length ≤ 8192) {node many least : Int} (hn : Nd node) {out : List Int} (ho : (out.length : Int) ≤ many) (hmm : many ≤ 300) (_hle : 0 ≤ least) (hle2 : least ≤ 300) {p : Nat} (hp : p ≤ l.length) {x : Int × Int × Int} (hx : x.1 = many) :
    vZ F l node least (k : Int) x (p : Int) out = some (gG2 l k node least many out p) := by
  unfold vZ gG2
  have em : iconv .i64 many = many := kn (by omega) (by omega)
  rw [hx, em]
  by_cases h0 : (out.length : Int) = many
  · rw [if_pos (by simpa using h0), if_pos h0]
  · rw [if_neg (by simpa using h0), if_neg h0]
    by_cases h3 : 0 < least
    · rw [if_pos (by simpa using h3), if_pos h3]
      refine qgr (most := 300) (by omega) hl hm hp (fun g hg => ?_) (fun g hg g0 g1 g2 g3 => ?_)
      · rw [if_pos (by simpa using hg)]
      · simp only
        rw [if_neg (by simp; omega)]
        have := qoY hF h1 h2 hl hm hn hmm h3 hle2 hx (x9 := (g.1, (g.2 : Int), 0)) (n := g.1.toNat) (by simp only; omega) (by omega) F 0 g.2 out node (by omega) (Nat.zero_le _) ho g3 (fun h => by omega) (fun _ => rfl)
        exact this
    · rw [if_neg (by simpa using h3), if_neg h3]
      exact qm4 hF h1 h2 hl hm hn ho hmm hp hx
theorem qo5 {F k : Nat} (hF : 2000000 ≤ F) {l : List Int} (hl : Bit l) (hm : l.length ≤ 8192) {node least : Int} {fr : List Int} {x x9 : Int × Int × Int} {n : Nat} (hx9 : x9.1 = (n : Int)) (hn3 : n ≤ 400) :
    ∀ (j i p : Nat) (bs : List Int), n < j + i → i ≤ n → bs.length = i → p ≤ l.length →
    kP F l node fr least (k : Int) x x9 j ((p : Int), bs, (i : Int)) = match rbl l 1000 (n - i) (decide (0 < i)) p with | none => some ([], false) | some b => vX F l node fr least (k : Int) x (b.2 : Int) (bs ++ b.1)
  | 0, _, _, _, _, _, _, _ => by omega
  | j + 1, i, p, bs, h, hi, hb, hp => by
    show qax F l node fr least (k : Int) x x9 (kP F l node fr least (k : Int) x x9 j) (p : Int) bs (i : Int) = _
    unfold qax
    rw [hx9]
    by_cases hlt : i < n
    · rw [if_pos (by simpa using hlt), show n - i = (n - (i + 1)) + 1 from by omega, qgn (by omega) hl hm hp]
      simp only [Option.bind_some, rbl]
      cases hr : rgam l p 1000 with
      | none =>
        rw [if_pos (by
          unfold rgam at hr
          split at hr
          · simp at hr
          · rename_i hc
            simp only [Bool.or_eq_true, bne_iff_ne, ne_eq, decide_eq_true_eq]
            by_cases h9 : (fg l p).2.2 = 0
            · right
              have := fun h8 => hc ⟨h9, h8⟩
              omega
            · left; exact h9)]
        rfl
      | some g =>
        have hok := jX hr
        have hfg : fg l p = (g.1, (g.2 : Int), 0) := by
          unfold rgam at hr
          split at hr
          · rename_i hc
            simp only [Option.some.injEq] at hr
            rw [← hr]
            have h3 : 0 ≤ (fg l p).2.1 := by
              rcases qnd (l := l) (a := p) with h1 | ⟨n, q, h1, h2, h3⟩
              · exact absurd hc.1 h1
              · rw [h1]; simp
            simp only
            rw [Int.toNat_of_nonneg h3, ← hc.1]
          · simp at hr
        rw [hfg]
        simp only [Option.bind_some]
        rw [if_neg (by simp; omega)]
        have hst : ∀ y : Int, 0 ≤ y → y ≤ 2000 → vN F (kP F l node fr least (k : Int) x x9 j) bs (i : Int) (g.1, (g.2 : Int), 0) y = match rbl l 1000 (n - (i + 1)) true g.2 with | none => some ([], false) | some b => vX F l node fr least (k : Int) x (b.2 : Int) (bs ++ y :: b.1) := by
          intro y y0 y1
          unfold vN
          have ey : iconv .i64 y = y := kn (by omega) (by omega)
          rw [ey, zU (by simp; omega)]
          simp only [Option.bind_some]
          rw [qjE (by omega) (by omega), show ((i : Int) + 1) = ((i + 1 : Nat) : Int) from by omega]
          rw [qo5 hF hl hm hx9 hn3 j (i + 1) g.2 _ (by omega) (by omega) (by simp [hb]) hok.2.2.2, decide_eq_true (show 0 < i + 1 from by omega)]
          cases rbl l 1000 (n - (i + 1)) true g.2 with
          | none => rfl
          | some b => simp
        by_cases h0 : 0 < i
        · rw [if_pos (by simpa using h0), qjE (by omega) (by omega), hst _ (by omega) (by omega), decide_eq_true h0]
          simp only [if_true]
          cases rbl l 1000 (n - (i + 1)) true g.2 with
          | none => rfl
          | some b => rfl
        · rw [if_neg (by simpa using h0), hst _ (by omega) (by omega), decide_eq_false h0]
          simp only [Bool.false_eq_true, if_false, Int.add_zero]
          cases rbl l 1000 (n - (i + 1)) true g.2 with
          | none => rfl
          | some b => rfl
    · rw [if_neg (by simpa using hlt), show n - i = 0 from by omega]
      simp [rbl]
theorem qqW {F k : Nat} (hF : 2000000 ≤ F) (h1 : 1 ≤ k) (h2 : k ≤ 16) {l : List Int} (hl : Bit l) (hm : l.length ≤ 8192) {node back least : Int} (hn : Nd node) (hle : 0 ≤ least) (hle2 : least ≤ 300) {fr : List Int} (hfr : 0 < back → gkc fr = 0) {p : Nat} (hp : p ≤ l.length) :
    qcV F l (p : Int) node fr back least (k : Int) = some (gG l p node fr back least k) := by
  unfold qcV gG
  refine qgr (most := 300) (by omega) hl hm hp (fun g hg => ?_) (fun m hg m0 m1 m2 m3 => ?_)
  · rw [if_pos (by simpa using hg)]
  · simp only
    rw [if_neg (by simp; omega)]
    by_cases h0 : m.1 = 0
    · rw [if_pos (by simpa using h0), if_pos h0]
    · rw [if_neg (by simpa using h0), if_neg h0]
      by_cases hb : 0 < back
      · have hfl := (kF.1 (hfr hb)).1
        rw [if_pos (by simpa using hb), if_pos hb]
        have ef : iconv .u64 (iadd .i64 (fr.length : Int) 1) = (fr.length : Int) + 1 := by
          rw [zb (by omega) (by omega)]
          exact yK (n := fr.length + 1) (by omega)
        refine qgr (most := (fr.length : Int) + 1) (by omega) hl hm m3 (fun g hg => ?_) (fun n hg n0 n1 n2 n3 => ?_)
        · rw [ef, if_pos (by simpa using hg)]
        · simp only
          rw [ef, if_neg (by simp; omega)]
          have := qo5 (F := F) (k := k) hF hl hm (node := node) (least := least) (fr := fr) (x := (m.1, (m.2 : Int), 0)) (x9 := (n.1, (n.2 : Int), 0)) (n := n.1.toNat) (by simp only; omega) (by omega) F 0 n.2 [] (by omega) (Nat.zero_le _) rfl n3
          refine Eq.trans this ?_
          rw [Nat.sub_zero, show decide (0 < 0) = false from rfl]
          cases hr : rbl l 1000 n.1.toNat false n.2 with
          | none => rfl
          | some b =>
            have hbl := qjC n3 hr
            simp only [List.nil_append]
            unfold vX
            rw [qnZ (by omega)]
            simp only [Option.bind_some]
            have em : iconv .i64 m.1 = m.1 := kn (by omega) (by omega)
            rw [em]
            by_cases hc : (cpy fr b.1).2 = 0 ∧ ((cpy fr b.1).1.length : Int) ≤ m.1
            · rw [if_neg (by simp; exact ⟨hc.1, by omega⟩), if_pos hc]
              exact qo1 hF h1 h2 hl hm hn hc.2 (by omega) hle hle2 hbl.2 rfl
            · rw [if_neg hc, if_pos (by
                simp only [Bool.or_eq_true, bne_iff_ne, ne_eq, decide_eq_true_eq]
                by_cases h9 : (cpy fr b.1).2 = 0
                · right
                  have := fun h8 => hc ⟨h9, h8⟩
                  omega
                · left; exact h9)]
      · rw [if_neg (by simpa using hb), if_neg hb]
        exact qo1 hF h1 h2 hl hm hn (by simp; omega) (by omega) hle hle2 m3 rfl
theorem qmv {F : Nat} {xs ys : List Int} (he : xs.length = ys.length) (hm : xs.length ≤ 1000000) : ∀ (k i : Nat), xs.length < k + i → i ≤ xs.length → kJ F xs ys k (i : Int) = some (decide (xs.drop i = ys.drop i))
  | 0, _, _, _ => by omega
  | k + 1, i, h, hi => by
    show yU F xs ys (kJ F xs ys k) (i : Int) = _
    unfold yU
    by_cases hlt : i < xs.length
    · have hlt' : i < ys.length := by omega
      rw [if_pos (by simp; omega), zn, List.getElem?_eq_getElem hlt, zn, List.getElem?_eq_getElem hlt']
      simp only [Option.bind_some]
      rw [List.drop_eq_getElem_cons hlt, List.drop_eq_getElem_cons hlt']
      by_cases hc : xs[i] = ys[i]
      · rw [if_neg (by simp [hc]), zg (by omega), qmv he hm k (i + 1) (by omega) (by omega)]
        congr 1
        rw [decide_eq_decide, List.cons.injEq]
        exact ⟨fun h => ⟨hc, h⟩, fun h => h.2⟩
      · rw [if_pos (by simpa using hc), decide_eq_false (fun e => hc (List.cons.inj e).1)]
    · rw [if_neg (by simp; omega), List.drop_eq_nil_of_le (by omega), List.drop_eq_nil_of_le (by omega)]
      rfl
theorem qh7 {F : Nat} {xs ys : List Int} (hF : xs.length < F) (hm : xs.length ≤ 1000000) : yg F xs ys = some (decide (xs = ys)) := by
  unfold yg
  by_cases h : xs.length = ys.length
  · rw [if_neg (by simp [h])]
    have := qmv (F := F) h hm F 0 (by omega) (Nat.zero_le _)
    rw [List.drop_zero, List.drop_zero] at this
    exact this
  · rw [if_pos (by simp; omega), decide_eq_false (fun e => h (by rw [e]))]
theorem qkA {k : Nat} (h1 : 1 ≤ k) (h2 : k ≤ 16) {node q : Int} (hn : Nd node) {S out x : List Int} (hS : Ris q S) (hx : gkc x = 0) (hp : (out ++ S).Perm x) (P T : List Int) :
    gGap (P ++ (zes k (gp false node S) ++ T)) k node x.length out P.length = (x, true) := by
  have hlen2 := hp.length_eq
  rw [List.length_append] at hlen2
  unfold gGap
  rw [show ((x.length : Int) - out.length).toNat = (gp false node S).length from by rw [qhH]; omega]
  have h40 : L40 (gp false node S) := fun z hz => by have := qkX hn hS (by simp) z hz; omega
  have := qj4 h1 h2 P T h40 (qoJ (b := false) hn hS (by simp))
  rw [List.append_assoc] at this
  rw [this]
  simp only
  rw [qfl hp (qhL (qfj hx))]
theorem qmJ {node least many : Int} {k : Nat} (hle : 0 ≤ least) (hmm : many ≤ 300) : ∀ (R : List (Int × Int)) (b : Bool) (a q : Int) (out P T : List Int), (∀ r ∈ R, RunOk r ∧ least ≤ r.2) → Nd a → Sep q R → (b = true → a + 1 ≤ q) → (b = false → a = node) → ((out.length : Int) + (flat R).length ≤ many) →
    gRn (P ++ (encRs least b a R ++ T)) k node least many R.length b a out P.length = gGap (P ++ (encRs least b a R ++ T)) k node many (out ++ flat R) (P.length + (encRs least b a R).length)
  | [], _, _, _, _, P, T, _, _, _, _, _, _ => by simp [gRn, encRs, flat]
  | r :: R, b, a, q, out, P, T, hR, ha, hs, hb, hb0, ho => by
    obtain ⟨hro, hrl⟩ := hR r (by simp)
    obtain ⟨s1, s2, s3⟩ := hs
    unfold RunOk at hro
    have ha' := ha
    unfold Nd at ha'
    have hf := qeA (x := r.1 - a) (by omega)
    have hf2 : foldOf (r.1 - a) ≤ 2097152 := by unfold foldOf; split <;> omega
    have hv : 0 ≤ (if b = true then r.1 - a - 2 else foldOf (r.1 - a)) ∧ (if b = true then r.1 - a - 2 else foldOf (r.1 - a)) ≤ 2097152 := by
      cases b with
      | false => simp; omega
      | true => have := hb rfl; simp; omega
    rw [km, List.length_append, yR] at ho
    unfold encRs
    simp only [List.length_cons, gRn, List.append_assoc]
    rw [qgk hv.1 (by omega) (by omega)]
    simp only
    have e1 := qgk (n := r.2 - least) (most := 1000) (by omega) (by omega) (by omega) (P ++ ga (if b = true then r.1 - a - 2 else foldOf (r.1 - a)).toNat) (encRs least true (r.1 + r.2 - 1) R ++ T)
    simp only [List.append_assoc, List.length_append] at e1
    rw [e1]
    simp only
    have e2 : gFst b a node (if b = true then r.1 - a - 2 else foldOf (r.1 - a)) = r.1 := by
      unfold gFst
      cases b with
      | false =>
        have := hb0 rfl
        subst this
        simp only [Bool.false_eq_true, if_false]
        have : st false a (foldOf (r.1 - a)) = some r.1 := by
          unfold st
          rw [if_neg (by omega)]
          simp only [Bool.false_eq_true, if_false]
          rw [qfr, show a + (r.1 - a) = r.1 from by omega, if_pos (show Nd r.1 from hro.1)]
        rw [this]
      | true => simp only [if_true]; omega
    rw [e2, show r.2 - least + least = r.2 from by omega, show r.1 + (r.2 - least) + least - 1 = r.1 + r.2 - 1 from by omega]
    rw [if_neg (by omega), if_neg (by rw [List.length_append, yR]; omega)]
    have := qmJ (node := node) (k := k) hle hmm R true (r.1 + r.2 - 1) (r.1 + r.2) (out ++ rng r.1 r.2.toNat) ((P ++ ga (if b = true then r.1 - a - 2 else foldOf (r.1 - a)).toNat) ++ ga (r.2 - least).toNat) T (fun z hz => hR z (by simp [hz])) (by unfold Nd; omega) s3 (fun _ => by omega) (fun h => by simp at h) (by rw [List.length_append, yR]; omega)
    simp only [List.append_assoc, List.length_append] at this
    rw [show P.length + (ga (if b = true then r.1 - a - 2 else foldOf (r.1 - a)).toNat).length + (ga (r.2 - least).toNat).length = P.length + ((ga (if b = true then r.1 - a - 2 else foldOf (r.1 - a)).toNat).length + (ga (r.2 - least).toNat).length) from by omega, this]
    simp only [List.length_append, km]
    congr 1
    omega
theorem qnn {k : Nat} (h1 : 1 ≤ k) (h2 : k ≤ 16) {node least : Int} (hn : Nd node) (_hle : least = 0 ∨ 2 ≤ least ∧ least ≤ 300) {rest out x : List Int} (hr : gkc rest = 0) (hx : gkc x = 0) (ho : out.Pairwise (· ≤ ·)) (hp : (out ++ rest).Perm x) (P T : List Int) :
    gG2 (P ++ (encL node rest least k ++ T)) k node least x.length out P.length = (x, true) := by
  have hlen2 := hp.length_eq
  have hxm := (kF.1 hx).1
  obtain ⟨hrm, hrs⟩ := kF.1 hr
  rw [List.length_append] at hlen2
  unfold gG2 encL
  by_cases h0 : rest = []
  · subst h0
    simp only [List.length_nil, Nat.add_zero] at hlen2
    rw [if_pos (by omega)]
    rw [List.append_nil] at hp
    have e1 := qfl hp (qhL (qfj hx))
    have e2 := qfl (List.Perm.refl out) ho
    rw [e2] at e1
    rw [e1]
  · have hl0 : rest.length ≠ 0 := by simpa using h0
    rw [if_neg (by omega), if_neg h0]
    obtain ⟨e1, e2, e3, e4⟩ := qjW (least := least) hr
    by_cases hl : 0 < least
    · have hlen := e3.length_eq
      rw [List.length_append] at hlen
      obtain ⟨r1, r2⟩ := qkL hrm hrs
      have hO : encO rest least = spO least (rs rest) := by unfold encO; rw [if_pos hl]
      have hsep : Sep (-1) (encO rest least) := by rw [hO]; exact qbS _ r1
      have hfl := qer hsep
      rw [if_pos hl, if_pos hl]
      unfold encR
      simp only [List.append_assoc]
      rw [qeB (by omega) (by omega)]
      simp only [Int.toNat_natCast]
      have := qmJ (k := k) (node := node) (least := least) (many := (x.length : Int)) (by omega) (by omega) (encO rest least) false node (-1) out (P ++ ga (encO rest least).length) (zes k (gp false node (encS rest least)) ++ T) (fun r hrr => by rw [hO] at hrr; exact ⟨r2 r (List.mem_filter.1 hrr).1, by simpa using (List.mem_filter.1 hrr).2⟩) hn hsep (fun h => by simp at h) (fun _ => rfl) (by omega)
      simp only [List.append_assoc, List.length_append] at this
      rw [this]
      have hpx : ((out ++ flat (encO rest least)) ++ encS rest least).Perm x := by
        rw [List.append_assoc]
        exact (List.Perm.append_left out e3).trans hp
      have := qkA h1 h2 hn e2 hx hpx (P ++ (ga (encO rest least).length ++ encRs least false node (encO rest least))) T
      simp only [List.append_assoc, List.length_append] at this
      rw [Nat.add_assoc]
      exact this
    · have hO : encO rest least = [] := by unfold encO; rw [if_neg hl]
      rw [if_neg hl, if_neg hl, List.nil_append]
      rw [hO] at e3
      exact qkA h1 h2 hn e2 hx ((List.Perm.append_left out e3).trans hp) P T
theorem qql {k : Nat} (h1 : 1 ≤ k) (h2 : k ≤ 16) {node back least : Int} {x fr : List Int} (hn : Nd node) (hle : least = 0 ∨ 2 ≤ least ∧ least ≤ 300) (hx : gkc x = 0) (hfr : 0 < back → gkc fr = 0) (P T : List Int) :
    gG (P ++ (enc node x fr back least k ++ T)) P.length node fr back least k = (x, true) := by
  have hxm := (kF.1 hx).1
  unfold gG enc rstO
  rw [List.append_assoc, qeB (by omega) (by omega)]
  simp only
  by_cases h0 : x = []
  · subst h0
    rw [if_pos (by simp)]
  · have hx0 : x.length ≠ 0 := by simpa using h0
    rw [if_neg (by omega), if_neg h0]
    by_cases hb : 0 < back
    · have hfg := hfr hb
      have hfl := (kF.1 hfg).1
      rw [if_pos hb, if_pos hb, if_pos hb]
      have htl := qgo fr x
      have hok : okB true (tbs fr x) = true := qgb _ _ _ _ (by omega) (Or.inl rfl)
      have hsum : bsum (tbs fr x) ≤ 0 + (fr.map (hasB x)).length := qeV _ _ _ (by omega)
      rw [List.length_map] at hsum
      have e0 := qeB (n := (tbs fr x).length) (most := (fr.length : Int) + 1) (by omega) (by omega) (P ++ ga x.length) (encBs false (tbs fr x) ++ (encL node (rst fr x) least k ++ T))
      have e1 := qjS (many := 1000) (by omega) (tbs fr x) false ((P ++ ga x.length) ++ ga (tbs fr x).length) (encL node (rst fr x) least k ++ T) hok (fun n hnm => by have := qgg hok n hnm; omega)
      unfold encB
      simp only [List.append_assoc, List.length_append] at e0 e1 ⊢
      rw [e0]
      simp only [Int.toNat_natCast]
      rw [Nat.add_assoc, e1]
      simp only
      rw [qnk hfg]
      have hbe := qkG hfg hx
      have hfx : (fr.filter (hasB x)).length ≤ x.length := by rw [hbe]; exact List.length_filter_le _ _
      rw [if_pos ⟨rfl, by simp only; omega⟩]
      have hperm : (fr.filter (hasB x) ++ rst fr x).Perm x := by rw [hbe]; exact qiW _ _
      have := qnn h1 h2 hn hle (qhq hx) hx (qhL ((qfj hfg).sublist List.filter_sublist)) hperm ((P ++ ga x.length) ++ (ga (tbs fr x).length ++ encBs false (tbs fr x))) T
      simp only [List.append_assoc, List.length_append] at this
      simp only [Nat.add_assoc]
      exact this
    · rw [if_neg hb, if_neg hb, if_neg hb, List.nil_append]
      have := qnn h1 h2 hn hle hx hx (out := []) (by simp) (by simp) (P ++ ga x.length) T
      simp only [List.append_assoc, List.length_append] at this
      exact this
theorem qir {k : Nat} (h1 : 1 ≤ k) (h2 : k ≤ 16) {l : List Int} {p : Nat} (hp : p ≤ l.length) {node back least : Int} {x fr : List Int} (hn : Nd node) (hle : least = 0 ∨ 2 ≤ least ∧ least ≤ 300) (hx : gkc x = 0) (hfr : 0 < back → gkc fr = 0) (hs : (l.drop p).take (enc node x fr back least k).length = enc node x fr back least k) :
    gG l p node fr back least k = (x, true) ∧ rls l p node fr back least k = some (x, p + (enc node x fr back least k).length) := by
  have e : l = l.take p ++ (enc node x fr back least k ++ (l.drop p).drop (enc node x fr back least k).length) := by
    conv => lhs; rw [← List.take_append_drop p l, ← List.take_append_drop (enc node x fr back least k).length (l.drop p), hs]
  have hpl : (l.take p).length = p := by rw [List.length_take]; omega
  have a1 := qql h1 h2 hn hle hx hfr (l.take p) ((l.drop p).drop (enc node x fr back least k).length)
  have a2 := qnl h1 h2 hn hle hx hfr (l.take p) ((l.drop p).drop (enc node x fr back least k).length)
  rw [← e, hpl] at a1 a2
  exact ⟨a1, a2⟩
theorem qnS {F : Nat} (hF : 2000000 ≤ F) {m p node back least k : Int} {b fr : List Int} (hb : U8s b) : qdl F m b p node fr back least k = some (sr m b p node fr back least k) := by
  have hj : j7 F m b p node fr back least k (srE m b p node fr back least k) = some (sr m b p node fr back least k) := by
    unfold j7 sr
    by_cases h : srE m b p node fr back least k = 0
    · rw [if_neg (by simp [h]), if_neg (by simp [h])]
      obtain ⟨h1, h2, h3⟩ := qox h
      obtain ⟨k1, k2, k', rfl, k3, k4⟩ := qkb h1
      obtain ⟨n1, n2⟩ := qkp h3
      rcases qkx hb (m := m) (a := p) with hx | ⟨l, i, hl, hlm, rfl, rfl, rfl, hi⟩
      · exact absurd h2 hx
      · have hbl : qb1 F (l.length : Int) (pk l) = some l := by
          rw [qhV (by omega) (qh4 hl) (by rw [qhN]; omega) (by omega), qg7 hl]
        rw [hbl]
        simp only [Option.bind_some, Int.toNat_natCast, qg7 hl]
        rw [qqW hF k3 k4 hl hlm n1 (by omega) (by omega) n2 hi]
        simp only [Option.bind_some]
        cases hr : rdl l i node fr back least k' with
        | some r =>
          obtain ⟨r1, r2, r3, r4, r5⟩ := qoW hl k3 hr
          have hg := (qir k3 k4 hi n1 k2 r1 n2 r4).1
          rw [hg]
          simp only
          rw [if_neg (by simp), qeq (by omega)]
          simp only [Option.bind_some]
          unfold vD
          rw [if_neg (by simp [r1]), qgV hF k3 k4 n1 r1 n2]
          simp only [Option.bind_some]
          rw [zo (by omega) (by omega), if_neg (by simp; omega), zb (by omega) (by omega), show ((i : Int) + ((enc node r.1 fr back least k').length : Int)) = ((i + (enc node r.1 fr back least k').length : Nat) : Int) from by omega, qha (by omega) (by omega)]
          simp only [Option.bind_some]
          rw [show (l.take (i + (enc node r.1 fr back least k').length)).drop i = enc node r.1 fr back least k' from by rw [List.drop_take, Nat.add_sub_cancel_left]; exact r4]
          rw [qlT (by omega) (by omega)]
          simp only [Option.bind_some, Bool.not_true]
          unfold j6
          rw [if_neg (by simp), zb (by omega) (by omega), ← r3]
          congr 3
        | none =>
          simp only
          have hno : ∀ x : List Int, gkc x = 0 → (enc node x fr back least k').length ≤ 8192 → (l.drop i).take (enc node x fr back least k').length ≠ enc node x fr back least k' := by
            intro x hx hxl hs
            have h9 := (qir k3 k4 hi n1 k2 hx n2 hs).2
            unfold rdl at hr
            rw [h9] at hr
            simp only [Option.bind_some] at hr
            rw [if_pos ⟨hx, hxl, trivial, hs⟩] at hr
            simp at hr
          by_cases hg : (gG l i node fr back least k').2 = true
          · rw [if_neg (by simp [hg]), qeq (by omega)]
            simp only [Option.bind_some]
            unfold vD
            by_cases hx : gkc (gG l i node fr back least k').1 = 0
            · rw [if_neg (by simp [hx]), qgV hF k3 k4 n1 hx n2]
              simp only [Option.bind_some]
              rw [zo (by omega) (by omega)]
              unfold j6
              by_cases hc : ((l.length : Int) - (i : Int)) < ((enc node (gG l i node fr back least k').1 fr back least k').length : Int)
              · rw [if_pos (by simpa using hc), if_pos rfl]
              · rw [if_neg (by simpa using hc), zb (by omega) (by omega), show ((i : Int) + ((enc node (gG l i node fr back least k').1 fr back least k').length : Int)) = ((i + (enc node (gG l i node fr back least k').1 fr back least k').length : Nat) : Int) from by omega, qha (by omega) (by omega)]
                simp only [Option.bind_some]
                have hne := hno _ hx (by omega)
                rw [qh7 (by simp; omega) (by simp; omega), decide_eq_false (by
                  rw [List.drop_take, Nat.add_sub_cancel_left]; exact hne)]
                simp only [Option.bind_some, Bool.not_false]
                rw [if_pos (by trivial)]
            · rw [if_pos (by simpa using hx)]
          · rw [if_pos (by simpa using hg)]
            unfold vD
            rw [if_pos rfl]
    · rw [if_pos (by simpa using h), if_pos h]
  unfold qdl
  rw [qj6]
  simp only [Option.bind_some]
  by_cases h1 : hcE back least k = 0
  · rw [if_pos (by simpa using h1), qlH (by omega) hb]
    simp only [Option.bind_some]
    unfold j9
    by_cases h2 : raOf m b p = 0
    · have e : srE m b p node fr back least k = scE node fr back := by unfold srE; rw [if_neg (by simp [h1]), if_neg (by simp [h2])]
      rw [if_pos (by simpa using h2), qkT (by omega), ← e]
      exact hj
    · have e : srE m b p node fr back least k = raOf m b p := by unfold srE; rw [if_neg (by simp [h1]), if_pos h2]
      rw [if_neg (by simpa using h2), ← e]
      exact hj
  · have e : srE m b p node fr back least k = hcE back least k := by unfold srE; rw [if_pos h1]
    rw [if_neg (by simpa using h1)]
    unfold j9
    rw [if_neg (by simpa using h1), ← e]
    exact hj
theorem qpA {k : Nat} {l : List Int} {p : Nat} {node back least : Int} {fr : List Int} {r : List Int × Nat} (h : rdl l p node fr back least k = some r) : gkc r.1 = 0 := by
  unfold rdl at h
  rw [Option.bind_eq_some_iff] at h
  obtain ⟨r', h2, h⟩ := h
  split at h
  · rename_i hc
    simp only [Option.some.injEq] at h
    subst h
    exact hc.1
  · simp at h
theorem qpX {m p node back least k : Int} {b fr : List Int} : (sr m b p node fr back least k).1.length ≤ 300 := by
  unfold sr
  split
  · simp
  · cases h : rdl (bl b m.toNat) p.toNat node fr back least k.toNat with
    | none => simp
    | some r => exact (kF.1 (qpA h)).1
theorem qpP {node back least k : Int} {x fr : List Int} : (sw node x fr back least k).2.1.length ≤ 2000 := by
  by_cases h : (sw node x fr back least k).2.2 = 0
  · obtain ⟨h1, h2⟩ := qqm h
    rw [qon h1 h2]
    simp only
    rw [qhN]
    omega
  · rw [qqn h]
    simp
theorem qlW {F : Nat} (hF : 2000000 ≤ F) {node back least k m p : Int} {x fr b : List Int} (hb : U8s b) (hm : I64 m) (lb : b.length ≤ 9223372036854775807) : qeh F node x fr back least k m b p = some true := by
  have hs1 := qpX (m := m) (p := p) (node := node) (back := back) (least := least) (k := k) (b := b) (fr := fr)
  have hs2 := qpP (node := node) (back := back) (least := least) (k := k) (x := x) (fr := fr)
  unfold qeh kM
  rw [qgZ hF]
  simp only [Option.bind_some]
  rw [qih hF hb hm lb]
  simp only [Option.bind_some]
  rw [qmr hF]
  simp only [Option.bind_some]
  rw [qnS hF hb]
  simp only [Option.bind_some]
  rw [sbegun hF]
  simp only [Option.bind_some, if_true]
  rw [qfD]
  simp only [Option.bind_some]
  rw [qj6]
  simp only [Option.bind_some, beq_self_eq_true, if_true]
  rw [qjc (by omega) (by omega)]
  simp only [Option.bind_some, if_true]
  rw [qh7 (by omega) (by omega), decide_eq_true rfl]
  rfl
end Go.Proofs.YtidnfcdnhdbolaaGreat
