/- Plain facts of what the functions of this seat compute, part 2. -/
import Derived.Test.YtpnfijegoepiaaaGreatPurePack12
import Derived.KernelRfl
import Derived.Lib.SlicesCompact
namespace Go.Proofs.YtpnfijegoepiaaaGreat
open Go SX
variable {F : Nat} {rec68 : (List (Int × Int) × List Int × Int) → Option (List (Int × Int) × List Int)} {l : List Int} {least : Int} {o : List (Int × Int)} {rest : List Int} {i : Int}
theorem qoJ {F : Nat} (hF : 20000 ≤ F) {R : List (Int × Int)} {least : Int} (hm : R.length ≤ 300) (hR : ∀ r ∈ R, RunOk r ∧ least ≤ r.2) (hle : 0 ≤ least) : ∀ (k i : Nat) (a : Int) (l : List Int) (f : Bool) (S : List Int), R.length < k + i → i ≤ R.length → Rep l f S → Nd a → (∃ q, Sep q (R.drop i) ∧ (0 < i → a + 1 ≤ q)) →
    Wr (zj F least R k (a, (i : Int), (l.length : Int), pk l, f)) (S ++ encRs least (decide (0 < i)) a (R.drop i))
  | 0, _, _, _, _, _, _, _, _, _, _ => by omega
  | k + 1, i, a, l, f, S, h, hi, hr, ha, hs => by
    show Wr (yW F least R (zj F least R k) a (i : Int) (l.length : Int) (pk l) f) _
    unfold yW
    by_cases hlt : i < R.length
    · obtain ⟨hro, hrl⟩ := hR R[i] (List.getElem_mem hlt)
      unfold RunOk at hro
      unfold Nd at ha
      rw [if_pos (by simp; omega), qs, List.getElem?_eq_getElem hlt, List.drop_eq_getElem_cons hlt]
      simp only [Option.bind_some]
      have hj : ∀ {l' : List Int} {f' : Bool} {S' : List Int}, Rep l' f' S' → S' = S ++ ga (if decide (0 < i) = true then R[i].1 - a - 2 else foldOf (R[i].1 - a)).toNat → Sep (R[i].1 + R[i].2) (R.drop (i + 1)) →
          Wr (kS F (zj F least R k) least (i : Int) R[i] (l'.length : Int) (pk l') f') (S ++ encRs least (decide (0 < i)) a (R[i] :: R.drop (i + 1))) := by
        intro l' f' S' hr' hS hsep
        unfold kS
        rw [qx (by omega) (by omega)]
        obtain ⟨l2, f2, e, h2⟩ := qcK hF hr' (n := R[i].2 - least) (by omega) (by omega)
        rw [e]
        simp only [Option.bind_some]
        rw [qic (by omega) (by omega), qn (by omega)]
        refine qhn (qoJ hF hm hR hle k (i + 1) (R[i].1 + R[i].2 - 1) l2 f2 _ (by omega) (by omega) h2 (by unfold Nd; omega) ⟨_, hsep, fun _ => by omega⟩) ?_
        rw [hS]; simp [encRs, List.append_assoc]
      obtain ⟨q, hsp, hq⟩ := hs
      rw [List.drop_eq_getElem_cons hlt] at hsp
      obtain ⟨h1, h2, h3⟩ := hsp
      by_cases h0 : 0 < i
      · have hq' := hq h0
        have e3 : isub .i64 R[i].1 a = R[i].1 - a := qx (by omega) (by omega)
        rw [if_neg (by simp; omega), e3, qx (by omega) (by omega)]
        obtain ⟨l', f', e, h'⟩ := qcK hF hr (n := R[i].1 - a - 2) (by omega) (by omega)
        rw [e]
        simp only [Option.bind_some]
        exact hj h' (by rw [if_pos (by simpa using h0)]) h3
      · obtain rfl : i = 0 := by omega
        have hf := qdV (x := R[0].1 - a) (by omega)
        rw [if_pos (by simp), qx (by omega) (by omega), qnX F (by omega) (by omega)]
        simp only [Option.bind_some]
        rw [show iconv .i64 (foldOf (R[0].1 - a)) = foldOf (R[0].1 - a) from q4 (by omega) (by omega)]
        obtain ⟨l', f', e, h'⟩ := qcK hF hr (n := foldOf (R[0].1 - a)) (by omega) (by omega)
        rw [e]
        simp only [Option.bind_some]
        exact hj h' (by rw [if_neg (by simp)]) h3
    · rw [if_neg (by simp; omega), List.drop_eq_nil_of_le (by omega)]
      exact ⟨l, f, rfl, by simpa [encRs] using hr⟩
theorem qrn {F : Nat} (hF : 20000 ≤ F) {R : List (Int × Int)} {least node q : Int} {l S : List Int} {f : Bool} (hm : R.length ≤ 300) (hR : ∀ r ∈ R, RunOk r ∧ least ≤ r.2) (hle : 0 ≤ least) (hr : Rep l f S) (hn : Nd node) (hs : Sep q R) :
    Wr (jM F (l.length : Int) (pk l) f node least R) (S ++ encR least node R) := by
  unfold jM
  obtain ⟨l', f', e, h'⟩ := qcK hF hr (n := (R.length : Int)) (by omega) (by omega)
  rw [e]
  simp only [Option.bind_some]
  refine qhn (qoJ hF hm hR hle F 0 node l' f' _ (by omega) (by omega) h' hn ⟨q, by simpa using hs, by omega⟩) ?_
  simp [encR]
theorem qfM : ∀ {bs : List Int} {f : Bool}, okB f bs = true → ∀ n ∈ bs, n ≤ bsum bs
  | [], _, _, n, h => by simp at h
  | x :: bs, f, h, n, hn => by
    rw [qeI] at h
    simp only [Bool.and_eq_true] at h
    have h0 := qii h.2
    have hx : 0 ≤ x := by simpa using h.1.1
    have hb : bsum (x :: bs) = x + bsum bs := rfl
    rcases List.mem_cons.1 hn with rfl | hn
    · omega
    · have := qfM h.2 n hn; omega
def encO (rest : List Int) (least : Int) : List (Int × Int) := if 0 < least then spO least (rs rest) else []
def encS (rest : List Int) (least : Int) : List Int := if 0 < least then flat (spS least (rs rest)) else rest
def encL (node : Int) (rest : List Int) (least : Int) (k : Nat) : List Int :=
  if rest = [] then [] else (if 0 < least then encR least node (encO rest least) else []) ++ zes k (gp false node (encS rest least))
def rstO (l fr : List Int) (back : Int) : List Int := if 0 < back then rst fr l else l
def enc (node : Int) (l fr : List Int) (back least : Int) (k : Nat) : List Int :=
  ga l.length ++ if l = [] then [] else (if 0 < back then encB (tbs fr l) else []) ++ encL node (rstO l fr back) least k
theorem qr0 {F : Nat} (hF : 200000 ≤ F) {a l : List Int} (ha : gkc a = 0) (hl : gkc l = 0) : qeb F a l = some (tbs a l, rst a l) := by
  obtain ⟨h1, h2⟩ := zA.1 ha
  obtain ⟨h3, h4⟩ := zA.1 hl
  have := qni hF (vM h2).1 (vM h4).1 h1 h3 F 0 [] true 0 (by omega) (by omega) (by simp) (by omega)
  rw [List.drop_zero, List.nil_append] at this
  unfold qeb
  rw [show ((0 : Nat) : Int) = 0 from rfl] at this
  rw [this]
  rfl
theorem qmH {F k : Nat} (hF : 20000 ≤ F) (h1 : 1 ≤ k) (h2 : k ≤ 16) {l S rest : List Int} {f : Bool} {node q : Int} (hr : Rep l f S) (hn : Nd node) (hm : rest.length ≤ 300) (hs : Ris q rest) :
    Wr (kQ F node (k : Int) rest (l.length : Int) (pk l) f) (S ++ zes k (gp false node rest)) := by
  unfold kQ
  have h40 : L40 (gp false node rest) := fun x hx => by have := qjB hn hs (by simp) x hx; omega
  have hp := qrH (F := F) (l := []) hF h1 h2 h40 (by rw [qha]; omega) (by intro x hx; simp at hx) (by simp)
  simp only [List.nil_append, List.length_nil] at hp
  rw [qrI hF hm hn hs]
  simp only [Option.bind_some]
  rw [show qbU F 0 ([] : List Int) (gp false node rest) (k : Int) = _ from hp]
  simp only [Option.bind_some]
  unfold kR
  by_cases hb : (zes k (gp false node rest)).length ≤ 8192
  · rw [if_pos hb]
    simp only [Bool.not_true, Bool.or_false]
    obtain ⟨l', f', e, h'⟩ := qlq hF hr (qoL k _) hb
    rw [e]
    exact ⟨l', f', rfl, h'⟩
  · rw [if_neg hb]
    simp only [Bool.not_false, Bool.or_true]
    have hr' := qqw hr (k := zes k (gp false node rest)) (by simp; omega)
    obtain ⟨l', f', e, h'⟩ := qlq hF hr' (k := []) (by intro x hx; simp at hx) (by simp)
    have e' : yh F (l.length : Int) (pk l) true 0 [] = some ((l'.length : Int), pk l', f') := e
    rw [e']
    exact ⟨l', f', rfl, by simpa using h'⟩
theorem qkb {F k : Nat} (hF : 2000000 ≤ F) (h1 : 1 ≤ k) (h2 : k ≤ 16) {l S rest : List Int} {f : Bool} {node least : Int} (hr : Rep l f S) (hn : Nd node) (hg : gkc rest = 0) (_hle : least = 0 ∨ 2 ≤ least ∧ least ≤ 300) :
    Wr (kP F node least (k : Int) rest (l.length : Int) (pk l) f) (S ++ encL node rest least k) := by
  obtain ⟨hm, hs⟩ := zA.1 hg
  unfold kP encL encO encS
  by_cases h0 : rest = []
  · subst h0
    exact ⟨l, f, rfl, by simpa using hr⟩
  · have hlen : rest.length ≠ 0 := by simpa using h0
    rw [if_neg (by simp; exact h0), if_neg h0]
    by_cases hl : 0 < least
    · rw [if_pos (by simpa using hl), if_pos hl, if_pos hl, if_pos hl, qnn hF hm hs]
      simp only [Option.bind_some]
      obtain ⟨s1, s2⟩ := qle (least := least) hm hs
      obtain ⟨r1, r2⟩ := qjR hm hs
      obtain ⟨l', f', e, h'⟩ := qrn (F := F) (R := spO least (rs rest)) (least := least) (node := node) (q := -1) (by omega) s1 (fun r hr => ⟨r2 r (List.mem_filter.1 hr).1, by simpa using (List.mem_filter.1 hr).2⟩) (by omega) hr hn (qb0 _ r1)
      rw [e]
      simp only [Option.bind_some]
      refine qhn (qmH (by omega) h1 h2 h' hn s2 (qhP hs _)) ?_
      rw [List.append_assoc]
    · rw [if_neg (by simpa using hl), if_neg hl, if_neg hl, List.nil_append]
      exact qmH (by omega) h1 h2 hr hn hm hs
theorem qgT {a l : List Int} (h : gkc l = 0) : gkc (rst a l) = 0 := qsg h List.filter_sublist
theorem qmI {F k : Nat} (hF : 2000000 ≤ F) (h1 : 1 ≤ k) (h2 : k ≤ 16) {x fr : List Int} {node back least : Int} (hn : Nd node) (hg : gkc x = 0) (hfr : 0 < back → gkc fr = 0) (hle : least = 0 ∨ 2 ≤ least ∧ least ≤ 300) :
    Wr (yR F 0 [] false node x fr back least (k : Int)) (enc node x fr back least k) := by
  obtain ⟨hm, hs⟩ := zA.1 hg
  unfold yR enc rstO
  obtain ⟨l, f, e, hr⟩ := qcK (F := F) (by omega) qr6 (n := (x.length : Int)) (by omega) (by omega)
  rw [show qV F 0 ([] : List Int) false (x.length : Int) = _ from e]
  simp only [Option.bind_some, List.nil_append, Int.toNat_natCast] at hr ⊢
  by_cases h0 : x = []
  · subst h0
    rw [if_pos (by simp), if_pos rfl]
    exact ⟨l, f, rfl, by simpa using hr⟩
  · rw [if_neg (by simpa using h0), if_neg h0]
    by_cases hb : 0 < back
    · have hfg := hfr hb
      have hfl := (zA.1 hfg).1
      rw [if_pos (by simpa using hb), if_pos hb, if_pos hb, qr0 (by omega) hfg hg]
      simp only [Option.bind_some]
      have htl := qfX fr x
      have hok : okB true (tbs fr x) = true := qft _ _ _ _ (by omega) (Or.inl rfl)
      have hsum : bsum (tbs fr x) ≤ 0 + (fr.map (hasB x)).length := qed _ _ _ (by omega)
      rw [List.length_map] at hsum
      have hbd : ∀ n ∈ tbs fr x, n ≤ 1000000 := fun n hnm => by
        have := qfM hok n hnm
        omega
      obtain ⟨l', f', e', h'⟩ := qnF (F := F) (bs := tbs fr x) (by omega) (by omega) hr hok hbd
      rw [e']
      simp only [Option.bind_some]
      refine qhn (qkb hF h1 h2 h' hn (qgT hg) hle) ?_
      rw [List.append_assoc]
    · rw [if_neg (by simpa using hb), if_neg hb, if_neg hb, List.nil_append]
      exact qkb hF h1 h2 hr hn hg hle
def rgam (l : List Int) (p : Nat) (most : Int) : Option (Int × Nat) := if (fg l p).2.2 = 0 ∧ (fg l p).1 ≤ most then some ((fg l p).1, (fg l p).2.1.toNat) else none
def Rd {α : Type} (l : List Int) (m : Option ((α × Int × Int) ⊕ (Int × Int))) (o : Option (α × Nat)) : Prop :=
  match o with
  | none => ∃ z, m = some (.inr z)
  | some x => m = some (.inl (x.1, (l.length : Int), (x.2 : Int)))
theorem yY {l : List Int} {p : Nat} {most : Int} {x : Int × Nat} (h : rgam l p most = some x) : 0 ≤ x.1 ∧ x.1 ≤ most ∧ x.1 ≤ 1099511627776 ∧ x.2 ≤ l.length := by
  unfold rgam at h
  split at h
  · rename_i hc
    rcases qjx (l := l) (a := p) with h1 | ⟨n, q, h1, h2, h3⟩
    · exact absurd hc.1 h1
    · simp only [Option.some.injEq] at h
      subst h
      rw [h1] at hc ⊢
      simp only at hc ⊢
      omega
  · simp at h
theorem qs1 {F : Nat} : kK F true = some (.inl ()) := rfl
theorem qp6 {F : Nat} : kK F false = some (.inr ()) := rfl
theorem qfP {F : Nat} (hF : 20000 ≤ F) {l : List Int} (hl : Bit l) (hm : l.length ≤ 8192) {p : Nat} (hp : p ≤ l.length) {most : Int} (h0 : 0 ≤ most) (h1 : most ≤ 1000000000) : Rd l (zl F (l.length : Int) (pk l) (p : Int) most) (rgam l p most) := by
  obtain ⟨mo, rfl⟩ := Int.eq_ofNat_of_zero_le h0
  unfold zl rgam
  rw [qgG hF hl hm hp]
  simp only [Option.bind_some]
  rw [zP (by omega)]
  rcases qjx (l := l) (a := p) with h2 | ⟨n, q, h2, h3, h4⟩
  · rw [if_neg (fun h => h2 h.1), show ((fg l p).2.2 == 0 && decide ((fg l p).1 ≤ (mo : Int))) = false from by simp [h2], qp6]
    exact ⟨_, rfl⟩
  · rw [h2]
    simp only [true_and, beq_self_eq_true, Bool.true_and]
    by_cases hc : (n : Int) ≤ mo
    · rw [if_pos hc, decide_eq_true hc, qs1]
      show _ = _
      simp only [lbnd, Option.bind_some, Int.toNat_natCast]
      rw [vG (by omega)]
    · rw [if_neg hc, decide_eq_false hc, qp6]
      exact ⟨_, rfl⟩
theorem qeh {α β : Type} {l : List Int} {m : Option ((α × Int × Int) ⊕ (Int × Int))} {o : Option (α × Nat)} {k : α × Int × Int → Option ((β × Int × Int) ⊕ (Int × Int))} {kl : Int × Int → Option ((β × Int × Int) ⊕ (Int × Int))} {g : α × Nat → Option (β × Nat)}
    (h : Rd l m o) (hk : ∀ x, o = some x → Rd l (k (x.1, (l.length : Int), (x.2 : Int))) (g x)) (hkl : ∀ z, ∃ z', kl z = some (.inr z')) : Rd l (lbnd m k kl) (o.bind g) := by
  cases o with
  | none =>
    obtain ⟨z, h⟩ := h
    rw [h]
    exact hkl z
  | some x =>
    have h' : m = some (.inl (x.1, (l.length : Int), (x.2 : Int))) := h
    rw [h']
    exact hk x rfl
def rbl (l : List Int) (many : Int) : Nat → Bool → Nat → Option (List Int × Nat)
  | 0, _, p => some ([], p)
  | k + 1, b, p => (rgam l p many).bind fun g => (rbl l many k true g.2).bind fun r => some ((g.1 + if b then 1 else 0) :: r.1, r.2)
def rblk (l : List Int) (p : Nat) (many : Int) : Option (List Int × Nat) := (rgam l p (many + 1)).bind fun g => rbl l many g.1.toNat false g.2
theorem qk9 {l : List Int} {many : Int} : ∀ {k : Nat} {b : Bool} {p : Nat} {r : List Int × Nat}, p ≤ l.length → rbl l many k b p = some r → r.1.length = k ∧ r.2 ≤ l.length
  | 0, _, p, r, hp, h => by simp only [rbl, Option.some.injEq] at h; subst h; exact ⟨rfl, hp⟩
  | k + 1, b, p, r, hp, h => by
    simp only [rbl, Option.bind_eq_some_iff, Option.some.injEq] at h
    obtain ⟨g, h1, r', h2, rfl⟩ := h
    have h3 := qk9 (yY h1).2.2.2 h2
    simp [h3.1, h3.2]
theorem qog {α : Type} {lim n : Nat} {y : α} (h : n ≤ lim) : mk lim y (n : Int) = some (List.replicate n y) := by
  unfold mk
  rw [if_pos ⟨by omega, by omega⟩, Int.toNat_natCast]
theorem qqM {α : Type} {o r : List α} {x y : α} : (o ++ x :: r).set o.length y = o ++ y :: r := by
  rw [List.set_append_right _ _ (Nat.le_refl _)]; simp
theorem qkS {α : Type} {o r : List α} {x : α} : idx (o ++ x :: r) (o.length : Int) = some x := by
  rw [qs]; simp
theorem qjL {F : Nat} (hF : 20000 ≤ F) {l : List Int} (hl : Bit l) (hm : l.length ≤ 8192) {many : Int} (h0 : 0 ≤ many) (h1 : many ≤ 1000000) {w : List Int} (hw : w.length ≤ 1000000) : ∀ (k : Nat) (o : List Int) (p : Nat), w.length < k + o.length → o.length ≤ w.length → p ≤ l.length →
    Rd l (zK F (pk l) many w k (o ++ List.replicate (w.length - o.length) 0, (o.length : Int), (l.length : Int), (p : Int)))
      ((rbl l many (w.length - o.length) (decide (0 < o.length)) p).map fun r => (o ++ r.1, r.2))
  | 0, _, _, _, _, _ => by omega
  | k + 1, o, p, h, ho, hp => by
    show Rd l (yg F (pk l) many w (zK F (pk l) many w k) (o ++ List.replicate (w.length - o.length) 0) (o.length : Int) (l.length : Int) (p : Int)) _
    unfold yg
    by_cases hlt : o.length < w.length
    · rw [if_pos (by simpa using hlt)]
      obtain ⟨d, hd⟩ : ∃ d, w.length - o.length = d + 1 := ⟨w.length - o.length - 1, by omega⟩
      rw [hd]
      unfold rbl
      rw [List.replicate_succ, Option.map_bind]
      refine qeh (qfP hF hl hm hp h0 (by omega)) (fun g hg => ?_) (fun z => ⟨_, rfl⟩)
      have hok := yY hg
      rw [qkS, Int.toNat_natCast, qqM]
      simp only [Option.bind_some, lett, Function.comp]
      rw [qp0, qr (by split <;> omega) (by split <;> omega), qn (by omega)]
      have e : w.length - (o ++ [g.1 + if 0 < o.length then 1 else 0]).length = d := by simp; omega
      have := qjL hF hl hm h0 h1 hw k (o ++ [g.1 + if 0 < o.length then 1 else 0]) g.2 (by simp; omega) (by simp; omega) hok.2.2.2
      rw [e] at this
      simp only [List.append_assoc, List.singleton_append, List.length_append, List.length_singleton] at this
      rw [show decide (0 < o.length + 1) = true from by simp] at this
      have h9 : ((rbl l many d true g.2).bind fun r => some ((g.1 + if decide (0 < o.length) = true then 1 else 0) :: r.1, r.2)).map (fun r => (o ++ r.1, r.2)) = (rbl l many d true g.2).map fun r => (o ++ (g.1 + if 0 < o.length then 1 else 0) :: r.1, r.2) := by
        cases rbl l many d true g.2 <;> simp
      rw [h9]
      exact this
    · rw [if_neg (by simp; omega), show w.length - o.length = 0 from by omega]
      show _ = _
      simp [jm]
theorem qmm {F : Nat} (hF : 20000 ≤ F) {l : List Int} (hl : Bit l) (hm : l.length ≤ 8192) {many : Int} (h0 : 0 ≤ many) (h1 : many ≤ 1000) {p : Nat} (hp : p ≤ l.length) : Rd l (vD F (l.length : Int) (pk l) (p : Int) many) (rblk l p many) := by
  unfold vD rblk
  rw [qr (by omega) (by omega)]
  refine qeh (qfP hF hl hm hp (by omega) (by omega)) (fun g hg => ?_) (fun z => ⟨_, rfl⟩)
  have hok := yY hg
  obtain ⟨n, hn⟩ := Int.eq_ofNat_of_zero_le hok.1
  rw [hn, qog (by omega)]
  simp only [Option.bind_some, Int.toNat_natCast]
  have := qjL hF hl hm h0 (by omega) (w := List.replicate n 0) (by simp; omega) F [] g.2 (by simp; omega) (by simp) hok.2.2.2
  simp only [List.length_replicate, List.length_nil, Nat.sub_zero, List.nil_append] at this
  rw [show decide (0 < 0) = false from rfl] at this
  have h9 : (rbl l many n false g.2).map (fun r => (r.1, r.2)) = rbl l many n false g.2 := by cases rbl l many n false g.2 <;> rfl
  rw [h9] at this
  exact this
theorem qf4 {x : List Int} {xs : List (List Int)} {i : Nat} (h : xs[i]? = some x) : (xs.drop i).flatten = x ++ (xs.drop (i + 1)).flatten := by
  have hlt := (List.getElem?_eq_some_iff.1 h).1
  rw [List.drop_eq_getElem_cons hlt, List.flatten_cons]
  rw [List.getElem?_eq_getElem hlt] at h
  simp only [Option.some.injEq] at h
  rw [h]
theorem qjt {F : Nat} {xs : List (List Int)} (hm : xs.length ≤ 1000) : ∀ (k i : Nat) (o : List Int), xs.length < k + i → i ≤ xs.length → o.length + (xs.drop i).flatten.length ≤ 1000000 →
    qL F xs k (o, (i : Int)) = some (o ++ (xs.drop i).flatten)
  | 0, _, _, _, _, _ => by omega
  | k + 1, i, o, h, hi, ho => by
    show qE F xs (qL F xs k) o (i : Int) = _
    unfold qE
    by_cases hlt : i < xs.length
    · have hg := List.getElem?_eq_getElem hlt
      have hf := qf4 hg
      rw [hf, List.length_append] at ho
      rw [if_pos (by simpa using hlt), qs, hg, hf]
      simp only [Option.bind_some]
      rw [qQ (by omega), qn (by omega)]
      simp only [Option.bind_some]
      rw [qjt hm k (i + 1) _ (by omega) (by omega) (by rw [List.length_append]; omega), List.append_assoc]
    · rw [if_neg (by simp; omega), List.drop_eq_nil_of_le (by omega)]
      simp [yO]
theorem qju {F : Nat} (hF : 20000 ≤ F) {xs : List (List Int)} (hm : xs.length ≤ 1000) (ht : xs.flatten.length ≤ 1000000) : ∀ (k i n : Nat), xs.length < k + i → i ≤ xs.length → n + (xs.drop i).flatten.length = xs.flatten.length →
    qM F xs k ((n : Int), (i : Int)) = some xs.flatten
  | 0, _, _, _, _, _ => by omega
  | k + 1, i, n, h, hi, hn => by
    show qF F xs (qM F xs k) (n : Int) (i : Int) = _
    unfold qF
    by_cases hlt : i < xs.length
    · have hg := List.getElem?_eq_getElem hlt
      have hf := qf4 hg
      rw [hf, List.length_append] at hn
      rw [if_pos (by simpa using hlt), qs, hg]
      simp only [Option.bind_some]
      rw [vL (by omega), if_neg (by simp; omega), qn (by omega)]
      exact qju hF hm ht k (i + 1) _ (by omega) (by omega) (by omega)
    · rw [if_neg (by simp; omega)]
      rw [List.drop_eq_nil_of_le (by omega)] at hn
      simp only [List.flatten_nil, List.length_nil] at hn
      unfold zO
      rw [qn5 (by omega)]
      simp only [Option.bind_some]
      have := qjt (F := F) hm F 0 [] (by omega) (by omega) (by simpa using ht)
      simpa using this
theorem qm1 {F : Nat} (hF : 20000 ≤ F) {a b c : List Int} (h : a.length + (b.length + c.length) ≤ 1000000) : zo F [a, b, c] = some (a ++ (b ++ c)) := by
  have := qju (F := F) hF (xs := [a, b, c]) (by simp) (by simpa using h) F 0 0 (by simp; omega) (by simp) (by simp)
  simp only [List.flatten_cons, List.flatten_nil, List.append_nil] at this
  exact this
theorem qsa {F : Nat} {a : List Int} (h : a.length ≤ 1000000) : zg F a = some (srt a) := by
  unfold zg
  rw [if_pos (by omega)]
def rrn (l : List Int) (least many : Int) : Nat → Bool → Int → Nat → Option (List (Int × Int) × Nat)
  | 0, _, _, p => some ([], p)
  | k + 1, b, a, p => (rgam l p 2097152).bind fun g => (rgam l g.2 many).bind fun x =>
      (rrn l least many k true (a + (if b then g.1 + 2 else q6 g.1) + (x.1 + least) - 1) x.2).bind fun r => some ((a + (if b then g.1 + 2 else q6 g.1), x.1 + least) :: r.1, r.2)
def rrns (l : List Int) (p : Nat) (node least many : Int) : Option (List (Int × Int) × Nat) := (rgam l p (many / least)).bind fun g => rrn l least many g.1.toNat false node g.2
theorem qlc {l : List Int} {least many : Int} : ∀ {k : Nat} {b : Bool} {a : Int} {p : Nat} {r : List (Int × Int) × Nat}, p ≤ l.length → rrn l least many k b a p = some r → r.1.length = k ∧ r.2 ≤ l.length
  | 0, _, _, p, r, hp, h => by simp only [rrn, Option.some.injEq] at h; subst h; exact ⟨rfl, hp⟩
  | k + 1, b, a, p, r, hp, h => by
    simp only [rrn, Option.bind_eq_some_iff, Option.some.injEq] at h
    obtain ⟨g, h1, x, h2, r', h3, rfl⟩ := h
    have h4 := qlc (yY h2).2.2.2 h3
    simp [h4.1, h4.2]
theorem qlp {g : Int} (h0 : 0 ≤ g) (h : g ≤ 2097152) : -1048577 ≤ q6 g ∧ q6 g ≤ 1048576 := by unfold q6; split <;> omega
theorem qoz {F : Nat} (hF : 20000 ≤ F) {l : List Int} (hl : Bit l) (hm : l.length ≤ 8192) {least many : Int} (h0 : 0 ≤ many) (h1 : many ≤ 300) (h2 : 2 ≤ least) (h3 : least ≤ 300) {w : List (Int × Int)} (hw : w.length ≤ 1000) : ∀ (k : Nat) (o : List (Int × Int)) (a : Int) (p : Nat), w.length < k + o.length → o.length ≤ w.length → p ≤ l.length → (-3000000 * ((o.length : Int) + 1) ≤ a ∧ a ≤ 3000000 * ((o.length : Int) + 1)) →
    Rd l (q9 F (pk l) least many w k (o ++ List.replicate (w.length - o.length) (0, 0), a, (o.length : Int), (l.length : Int), (p : Int)))
      ((rrn l least many (w.length - o.length) (decide (0 < o.length)) a p).map fun r => (o ++ r.1, r.2))
  | 0, _, _, _, _, _, _, _ => by omega
  | k + 1, o, a, p, h, ho, hp, ha => by
    show Rd l (yz F (pk l) least many w (q9 F (pk l) least many w k) (o ++ List.replicate (w.length - o.length) (0, 0)) a (o.length : Int) (l.length : Int) (p : Int)) _
    unfold yz
    by_cases hlt : o.length < w.length
    · rw [if_pos (by simpa using hlt)]
      obtain ⟨d, hd⟩ : ∃ d, w.length - o.length = d + 1 := ⟨w.length - o.length - 1, by omega⟩
      rw [hd]
      unfold rrn
      rw [List.replicate_succ, Option.map_bind]
      refine qeh (qfP hF hl hm hp (by omega) (by omega)) (fun g hg => ?_) (fun z => ⟨_, rfl⟩)
      have hok := yY hg
      have hun := qlp hok.1 hok.2.1
      have hj : ∀ (s : Int), s = a + (if decide (0 < o.length) = true then g.1 + 2 else q6 g.1) →
          Rd l (kE F (q9 F (pk l) least many w k) (pk l) least many (o ++ (0, 0) :: List.replicate d (0, 0)) (o.length : Int) (g.1, (l.length : Int), (g.2 : Int)) s)
            (Option.map (fun r => (o ++ r.1, r.2)) ((rgam l g.2 many).bind fun x => (rrn l least many d true (a + (if decide (0 < o.length) = true then g.1 + 2 else q6 g.1) + (x.1 + least) - 1) x.2).bind fun r => some ((a + (if decide (0 < o.length) = true then g.1 + 2 else q6 g.1), x.1 + least) :: r.1, r.2))) := by
        intro s hs
        rw [← hs]
        have hsb : -3000000 * ((o.length : Int) + 1) - 1048577 ≤ s ∧ s ≤ 3000000 * ((o.length : Int) + 1) + 2097154 := by rw [hs]; split <;> omega
        unfold kE
        rw [Option.map_bind]
        refine qeh (qfP hF hl hm hok.2.2.2 h0 (by omega)) (fun x hx => ?_) (fun z => ⟨_, rfl⟩)
        have hox := yY hx
        rw [qkS, Int.toNat_natCast, qqM]
        simp only [Option.bind_some, lett, Function.comp]
        rw [qkS, qr (by omega) (by omega)]
        simp only [Option.bind_some]
        have e1 : isub .i64 (x.1 + least) 1 = x.1 + least - 1 := qx (by omega) (by omega)
        rw [e1, qr (by omega) (by omega), qn (by omega)]
        have e : w.length - (o ++ [(s, x.1 + least)]).length = d := by simp; omega
        have := qoz hF hl hm h0 h1 h2 h3 hw k (o ++ [(s, x.1 + least)]) (s + (x.1 + least) - 1) x.2 (by simp; omega) (by simp; omega) hox.2.2.2 (by simp; omega)
        rw [e] at this
        simp only [List.append_assoc, List.singleton_append, List.length_append, List.length_singleton] at this
        rw [show decide (0 < o.length + 1) = true from by simp] at this
        have h9 : ((rrn l least many d true (s + (x.1 + least) - 1) x.2).bind fun r => some ((s, x.1 + least) :: r.1, r.2)).map (fun r => (o ++ r.1, r.2)) = (rrn l least many d true (s + (x.1 + least) - 1) x.2).map fun r => (o ++ (s, x.1 + least) :: r.1, r.2) := by
          cases rrn l least many d true (s + (x.1 + least) - 1) x.2 <;> simp
        rw [h9, show s + (x.1 + least - 1) = s + (x.1 + least) - 1 from by omega]
        exact this
      simp only [Function.comp]
      by_cases hz : 0 < o.length
      · rw [if_neg (by simp; intro hh; subst hh; simp at hz)]
        have e1 : iadd .i64 g.1 2 = g.1 + 2 := qr (by omega) (by omega)
        rw [e1, qr (by omega) (by omega)]
        exact hj _ (by rw [if_pos (by simpa using hz)])
      · have hz0 : o.length = 0 := by omega
        rw [if_pos (by simp [hz0])]
        obtain ⟨gn, hgn⟩ := Int.eq_ofNat_of_zero_le hok.1
        rw [show iconv .u64 g.1 = g.1 from by rw [hgn]; exact zP (by omega), qj8 F hok.1 (by omega)]
        simp only [Option.bind_some]
        rw [qr (by omega) (by omega)]
        exact hj _ (by rw [if_neg (by simp [hz0])])
    · rw [if_neg (by simp; omega), show w.length - o.length = 0 from by omega]
      show _ = _
      simp [qab]
theorem qo9 {F : Nat} (hF : 20000 ≤ F) {l : List Int} (hl : Bit l) (hm : l.length ≤ 8192) {node least many : Int} (h0 : 0 ≤ many) (h1 : many ≤ 300) (h2 : 2 ≤ least) (h3 : least ≤ 300) (hn : Nd node) {p : Nat} (hp : p ≤ l.length) :
    Rd l (jL F (l.length : Int) (pk l) (p : Int) node least many) (rrns l p node least many) := by
  unfold jL rrns
  unfold Nd at hn
  have hq : iquo .i64 many least = many / least := by
    obtain ⟨m, rfl⟩ := Int.eq_ofNat_of_zero_le h0
    obtain ⟨c, rfl⟩ := Int.eq_ofNat_of_zero_le (show 0 ≤ least by omega)
    unfold iquo
    rw [Int.tdiv_eq_ediv_of_nonneg (by omega)]
    have h5 : (m : Int) / (c : Int) ≤ m := Int.ediv_le_self _ (by omega)
    have h6 : 0 ≤ (m : Int) / (c : Int) := Int.ediv_nonneg (by omega) (by omega)
    exact q4 (by omega) (by omega)
  have hd0 : 0 ≤ many / least := Int.ediv_nonneg h0 (by omega)
  have hd1 : many / least ≤ many := Int.ediv_le_self _ h0
  have hc : ∀ {ρ : Type} (m : Option ρ), chk (least != 0) m = m := fun m => by unfold chk; rw [if_pos (by simp; omega)]
  rw [hq, hc]
  refine qeh (qfP hF hl hm hp hd0 (by omega)) (fun g hg => ?_) (fun z => ⟨_, rfl⟩)
  have hok := yY hg
  obtain ⟨n, hn'⟩ := Int.eq_ofNat_of_zero_le hok.1
  rw [hn', qog (by omega)]
  simp only [Option.bind_some, Int.toNat_natCast]
  have := qoz hF hl hm h0 h1 h2 h3 (w := List.replicate n (0, 0)) (by simp; omega) F [] node g.2 (by simp; omega) (by simp) hok.2.2.2 (by simp; omega)
  simp only [List.length_replicate, List.length_nil, Nat.sub_zero, List.nil_append] at this
  rw [show decide (0 < 0) = false from rfl] at this
  have h9 : (rrn l least many n false node g.2).map (fun r => (r.1, r.2)) = rrn l least many n false node g.2 := by cases rrn l least many n false node g.2 <;> rfl
  rw [h9] at this
  exact this
def rls2 (l : List Int) (node : Int) (k : Nat) (many : Int) (out : List Int) (R : List (Int × Int)) (p : Nat) : Option (List Int × Nat) :=
  if (rm R []).2 = 0 ∧ ((rm R []).1.length : Int) ≤ many - out.length then
    match gfr l k (many - out.length - (rm R []).1.length).toNat false node p with
    | .inl _ => none
    | .inr g => some (srt (out ++ ((rm R []).1 ++ g.1)), g.2)
  else none
def rls1 (l : List Int) (node least : Int) (k : Nat) (many : Int) (out : List Int) (p : Nat) : Option (List Int × Nat) :=
  if many - out.length = 0 then some (out, p) else
  if 0 < least then (rrns l p node least (many - out.length)).bind fun r => rls2 l node k many out r.1 r.2 else rls2 l node k many out [] p
def rls (l : List Int) (p : Nat) (node : Int) (fr : List Int) (back least : Int) (k : Nat) : Option (List Int × Nat) :=
  (rgam l p 300).bind fun m => if m.1 = 0 then some ([], m.2) else
    if 0 < back then (rblk l m.2 fr.length).bind fun b => if (cpy fr b.1).2 = 0 ∧ ((cpy fr b.1).1.length : Int) ≤ m.1 then rls1 l node least k m.1 (cpy fr b.1).1 b.2 else none
    else rls1 l node least k m.1 [] m.2
theorem qp3 {α σ ρ : Type} (y : α) (k : α → Option ρ) (kl : σ → Option ρ) : lbnd (some (.inl y)) k kl = k y := rfl
theorem qe5 {F : Nat} {c : Bool} {ρ : Type} (k kl : Unit → Option ρ) : lbnd (kK F c) k kl = if c then k () else kl () := by cases c <;> rfl
theorem qm5 {l : List Int} {k : Nat} : ∀ {m : Nat} {b : Bool} {a : Int} {p : Nat} {e : Int}, gfr l k m b a p = .inl e → e ≠ 0
  | 0, _, _, _, _, h => by simp [gfr] at h
  | m + 1, b, a, p, e, h => by
    unfold gfr at h
    split at h
    · rename_i h1; simp only [Sum.inl.injEq] at h; rw [← h]; exact h1
    · split at h
      · simp only [Sum.inl.injEq] at h; rw [← h]; decide
      · split at h
        · rename_i e' he; simp only [Sum.inl.injEq] at h; rw [← h]; exact qm5 he
        · simp at h
theorem qpU {l : List Int} {k : Nat} (hl : Bit l) (hk : 1 ≤ k) : ∀ {m : Nat} {b : Bool} {a : Int} {p : Nat} {r : List Int × Nat}, p ≤ l.length → gfr l k m b a p = .inr r → r.2 ≤ l.length
  | 0, _, _, p, r, hp, h => by simp only [gfr, Sum.inr.injEq] at h; subst h; exact hp
  | m + 1, b, a, p, r, hp, h => by
    unfold gfr at h
    split at h
    · simp at h
    · rename_i h1
      split at h
      · simp at h
      · split at h
        · simp at h
        · rename_i r' hr
          simp only [Sum.inr.injEq] at h
          rcases qrq hl (k := k) (p := p) hk with h2 | ⟨g, q, h2, h3, h4⟩
          · exact absurd h2 h1
          · rw [h2] at hr
            rw [← h]
            exact qpU (r := r') hl hk h4 hr
theorem qos {F k : Nat} (hF : 2000000 ≤ F) (h1 : 1 ≤ k) (h2 : k ≤ 16) {l : List Int} (hl : Bit l) (hm : l.length ≤ 8192) {node many : Int} (hn : Nd node) {out : List Int} (ho : (out.length : Int) ≤ many) (hmm : many ≤ 300) {R : List (Int × Int)} {p : Nat} (hp : p ≤ l.length) {x : Int × Int × Int} (hx : x.1 = many) :
    Rd l (kO F (pk l) node (k : Int) x out R (l.length : Int) (p : Int)) (rls2 l node k many out R p) := by
  unfold kO rls2
  rw [qp5 (by omega), hx]
  simp only [Option.bind_some]
  have hlen := qta (R := R) (rest := [])
  have e1 : isub .i64 many (out.length : Int) = many - out.length := qx (by omega) (by omega)
  rw [qe5, e1]
  by_cases hc : (rm R []).2 = 0 ∧ ((rm R []).1.length : Int) ≤ many - out.length
  · have e2 : isub .i64 (many - (out.length : Int)) ((rm R []).1.length : Int) = ((many - out.length - (rm R []).1.length).toNat : Int) := by rw [qx (by omega) (by omega)]; omega
    rw [if_pos (by simpa using hc), if_pos hc, e2, qpV (by omega) hl hm h1 h2 (by omega) hp hn]
    simp only [Option.bind_some]
    rw [qe5]
    cases hg : gfr l k (many - out.length - (rm R []).1.length).toNat false node p with
    | inl e =>
      have := qm5 hg
      rw [if_neg (show ¬ ((gfI [] (Sum.inl e : Int ⊕ (List Int × Nat))).2.2 == 0) = true by simpa [gfI] using this)]
      exact ⟨_, rfl⟩
    | inr g =>
      have hgl := qkO hg
      rw [if_pos (show ((gfI [] (Sum.inr g : Int ⊕ (List Int × Nat))).2.2 == 0) = true by simp [gfI]), show (gfI [] (Sum.inr g : Int ⊕ (List Int × Nat))).1 = g.1 from by simp [gfI], qm1 (by omega) (by omega)]
      simp only [Option.bind_some]
      rw [qsa (by simp; omega)]
      simp only [Option.bind_some]
      have hch : ∀ {ρ : Type} (q : Option ρ), chk (decide ((srt (out ++ ((rm R []).1 ++ g.1))).length = (out ++ ((rm R []).1 ++ g.1)).length)) q = q := fun q => by unfold chk; rw [if_pos (decide_eq_true (qgW _))]
      rw [hch]
      rfl
  · rw [if_neg (by simpa using hc), if_neg hc]
    exact ⟨_, rfl⟩
theorem qor {F k : Nat} (hF : 2000000 ≤ F) (h1 : 1 ≤ k) (h2 : k ≤ 16) {l : List Int} (hl : Bit l) (hm : l.length ≤ 8192) {node many least : Int} (hn : Nd node) {out : List Int} (ho : (out.length : Int) ≤ many) (hmm : many ≤ 300) {p : Nat} (hp : p ≤ l.length) {x : Int × Int × Int} (hx : x.1 = many) (hle : least = 0 ∨ 2 ≤ least ∧ least ≤ 300) :
    Rd l (kN F (pk l) node least (k : Int) x out (l.length : Int) (p : Int)) (rls1 l node least k many out p) := by
  unfold kN rls1
  have e1 : isub .i64 x.1 (out.length : Int) = many - out.length := by rw [hx]; exact qx (by omega) (by omega)
  rw [e1]
  by_cases h0 : many - out.length = 0
  · rw [if_pos (by simpa using h0), if_pos h0]
    rfl
  · rw [if_neg (by simpa using h0), if_neg h0]
    by_cases hs : 0 < least
    · rw [if_pos (by simpa using hs), if_pos hs]
      refine qeh (qo9 (by omega) hl hm (by omega) (by omega) (by omega) (by omega) hn hp) (fun r hr => ?_) (fun z => ⟨_, rfl⟩)
      have hq : r.2 ≤ l.length := by
        unfold rrns at hr
        rw [Option.bind_eq_some_iff] at hr
        obtain ⟨g, hg, hr⟩ := hr
        exact (qlc (yY hg).2.2.2 hr).2
      exact qos hF h1 h2 hl hm hn ho hmm hq hx
    · rw [if_neg (by simpa using hs), if_neg hs]
      exact qos hF h1 h2 hl hm hn ho hmm hp hx
theorem qoo {l : List Int} {p : Nat} {many : Int} {b : List Int × Nat} (h : rblk l p many = some b) : b.2 ≤ l.length := by
  unfold rblk at h
  rw [Option.bind_eq_some_iff] at h
  obtain ⟨g, hg, h⟩ := h
  exact (qk9 (yY hg).2.2.2 h).2
theorem qs9 {F k : Nat} (hF : 2000000 ≤ F) (h1 : 1 ≤ k) (h2 : k ≤ 16) {l : List Int} (hl : Bit l) (hm : l.length ≤ 8192) {node back least : Int} {fr : List Int} (hn : Nd node) {p : Nat} (hp : p ≤ l.length) (hfr : 0 < back → gkc fr = 0) (hle : least = 0 ∨ 2 ≤ least ∧ least ≤ 300) :
    Rd l (yP F (l.length : Int) (pk l) (p : Int) node fr back least (k : Int)) (rls l p node fr back least k) := by
  unfold yP rls
  refine qeh (qfP (by omega) hl hm hp (by omega) (by omega)) (fun m hg => ?_) (fun z => ⟨_, rfl⟩)
  have hok := yY hg
  by_cases h0 : m.1 = 0
  · rw [if_pos (by simpa using h0), if_pos h0]
    rfl
  · rw [if_neg (by simpa using h0), if_neg h0]
    by_cases hb : 0 < back
    · have hfl := (zA.1 (hfr hb)).1
      rw [if_pos (by simpa using hb), if_pos hb]
      refine qeh (qmm (by omega) hl hm (by omega) (by omega) hok.2.2.2) (fun b hbk => ?_) (fun z => ⟨_, rfl⟩)
      rw [qrz (by omega)]
      simp only [Option.bind_some]
      rw [qe5]
      by_cases hc : (cpy fr b.1).2 = 0 ∧ ((cpy fr b.1).1.length : Int) ≤ m.1
      · rw [if_pos (by simpa using hc), if_pos hc]
        exact qor hF h1 h2 hl hm hn hc.2 (by omega) (qoo hbk) rfl hle
      · rw [if_neg (by simpa using hc), if_neg hc]
        exact ⟨_, rfl⟩
    · rw [if_neg (by simpa using hb), if_neg hb]
      exact qor hF h1 h2 hl hm hn (by simp; omega) (by omega) hok.2.2.2 rfl hle
theorem qqy {k : Nat} {l : List Int} {node back least : Int} {fr : List Int} {p : Nat} {r : List Int × Nat} (hl : Bit l) (h1 : 1 ≤ k) (h : rls l p node fr back least k = some r) : r.2 ≤ l.length := by
  have h2 : ∀ {many : Int} {out : List Int} {R : List (Int × Int)} {q : Nat}, q ≤ l.length → rls2 l node k many out R q = some r → r.2 ≤ l.length := by
    intro many out R q hq hr
    unfold rls2 at hr
    split at hr
    · split at hr
      · simp at hr
      · rename_i g hg
        simp only [Option.some.injEq] at hr
        rw [← hr]
        exact qpU (r := g) hl h1 hq hg
    · simp at hr
  have h3 : ∀ {many : Int} {out : List Int} {q : Nat}, q ≤ l.length → rls1 l node least k many out q = some r → r.2 ≤ l.length := by
    intro many out q hq hr
    unfold rls1 at hr
    split at hr
    · simp only [Option.some.injEq] at hr; rw [← hr]; exact hq
    · split at hr
      · rw [Option.bind_eq_some_iff] at hr
        obtain ⟨r', hr1, hr2⟩ := hr
        refine h2 ?_ hr2
        unfold rrns at hr1
        rw [Option.bind_eq_some_iff] at hr1
        obtain ⟨g, hg, hr1⟩ := hr1
        exact (qlc (yY hg).2.2.2 hr1).2
      · exact h2 hq hr
  unfold rls at h
  rw [Option.bind_eq_some_iff] at h
  obtain ⟨m, hm, h⟩ := h
  split at h
  · simp only [Option.some.injEq] at h; rw [← h]; exact (yY hm).2.2.2
  · split at h
    · rw [Option.bind_eq_some_iff] at h
      obtain ⟨b, hb, h⟩ := h
      split at h
      · exact h3 (qoo hb) h
      · simp at h
    · exact h3 (yY hm).2.2.2 h
def rdl (l : List Int) (p : Nat) (node : Int) (fr : List Int) (back least : Int) (k : Nat) : Option (List Int × Nat) :=
  (rls l p node fr back least k).bind fun r => if gkc r.1 = 0 ∧ (enc node r.1 fr back least k).length ≤ 8192 ∧ p + (enc node r.1 fr back least k).length = r.2 ∧ (l.drop p).take (enc node r.1 fr back least k).length = enc node r.1 fr back least k then some r else none
theorem qoE {F : Nat} {l e : List Int} (hl : Bit l) (hm : l.length ≤ 8192) (he : Bit e) (hem : e.length ≤ 8192) {p : Nat} {x17 : List Int × Int × Int} (h17 : x17.2.1 = (l.length : Int)) (hpe : p + e.length ≤ l.length) : ∀ (k i : Nat), e.length < k + i → i ≤ e.length →
    (if (l.drop (p + i)).take (e.length - i) = e.drop i then zi F (pk l) (p : Int) x17 ((e.length : Int), pk e, false) k (i : Int) = some (x17.1, true, x17.2.1, x17.2.2)
      else ∃ a b, zi F (pk l) (p : Int) x17 ((e.length : Int), pk e, false) k (i : Int) = some ([], false, a, b))
  | 0, _, _, _ => by omega
  | k + 1, i, h, hi => by
    have hd : zi F (pk l) (p : Int) x17 ((e.length : Int), pk e, false) (k + 1) (i : Int) = yU F (pk l) (p : Int) x17 ((e.length : Int), pk e, false) (zi F (pk l) (p : Int) x17 ((e.length : Int), pk e, false) k) (i : Int) := rfl
    rw [hd]
    unfold yU
    by_cases hlt : i < e.length
    · rw [if_pos (show decide ((i : Int) < (((e.length : Int), pk e, false) : Int × List Int × Bool).1) = true by simpa using hlt)]
      simp only
      rw [qpy he (by omega) hlt, h17, vL (by omega), qpy hl (by omega) (show p + i < l.length by omega)]
      simp only [Option.bind_some]
      rw [qe5]
      have ih := qoE (F := F) hl hm he hem h17 hpe k (i + 1) (by omega) (by omega)
      have hstep : ((l.drop (p + i)).take (e.length - i) = e.drop i) ↔ (e[i] = l[p + i] ∧ (l.drop (p + (i + 1))).take (e.length - (i + 1)) = e.drop (i + 1)) := by
        rw [List.drop_eq_getElem_cons (show p + i < l.length by omega), List.drop_eq_getElem_cons hlt, show e.length - i = (e.length - (i + 1)) + 1 from by omega, List.take_succ_cons, List.cons.injEq, show p + i + 1 = p + (i + 1) from by omega]
        constructor
        · rintro ⟨a, b⟩; exact ⟨a.symm, b⟩
        · rintro ⟨a, b⟩; exact ⟨a.symm, b⟩
      rw [qn (by omega)]
      by_cases hq : e[i] = l[p + i]
      · rw [if_pos (show (e[i] == l[p + i]) = true by simpa using hq)]
        by_cases hr : (l.drop (p + (i + 1))).take (e.length - (i + 1)) = e.drop (i + 1)
        · rw [if_pos (hstep.2 ⟨hq, hr⟩)]
          rw [if_pos hr] at ih
          rw [h17] at ih
          exact ih
        · rw [if_neg (fun hh => hr (hstep.1 hh).2)]
          rw [if_neg hr] at ih
          exact ih
      · rw [if_neg (show ¬ (e[i] == l[p + i]) = true by simpa using hq), if_neg (fun hh => hq (hstep.1 hh).1)]
        exact ⟨_, _, rfl⟩
    · obtain rfl : i = e.length := by omega
      rw [if_neg (show ¬ decide (((e.length : Nat) : Int) < (((e.length : Int), pk e, false) : Int × List Int × Bool).1) = true by simp)]
      rw [if_pos (by simp)]
      rfl
theorem qrD {node : Int} {x fr : List Int} {back least : Int} {k : Nat} : 1 ≤ (enc node x fr back least k).length := by
  unfold enc
  rw [List.length_append, qkN]; omega
theorem qqB {F k : Nat} (hF : 2000000 ≤ F) (h1 : 1 ≤ k) (h2 : k ≤ 16) {l : List Int} (hl : Bit l) (hm : l.length ≤ 8192) {node back least : Int} {fr : List Int} (hn : Nd node) {p : Nat} (hp : p ≤ l.length) (hfr : 0 < back → gkc fr = 0) (hle : least = 0 ∨ 2 ≤ least ∧ least ≤ 300) :
    match rdl l p node fr back least k with
    | none => ∃ a b, yQ F (l.length : Int) (pk l) (p : Int) node fr back least (k : Int) = some ([], false, a, b)
    | some r => yQ F (l.length : Int) (pk l) (p : Int) node fr back least (k : Int) = some (r.1, true, (l.length : Int), (r.2 : Int)) := by
  have hL := qs9 hF h1 h2 hl hm hn hp hfr hle
  unfold yQ rdl
  cases hr : rls l p node fr back least k with
  | none =>
    rw [hr] at hL
    obtain ⟨z, hz⟩ := hL
    rw [hz]
    exact ⟨_, _, rfl⟩
  | some r =>
    rw [hr] at hL
    have hL' : yP F (l.length : Int) (pk l) (p : Int) node fr back least (k : Int) = some (.inl (r.1, (l.length : Int), (r.2 : Int))) := hL
    have hat := qqy hl h1 hr
    rw [hL', qp3, qeG (by omega)]
    simp only [Option.bind_some]
    rw [qe5]
    by_cases hg : gkc r.1 = 0
    · obtain ⟨e, f, he, hrep⟩ := qmI hF h1 h2 (x := r.1) hn hg hfr hle
      have hen := qrD (node := node) (x := r.1) (fr := fr) (back := back) (least := least) (k := k)
      rw [if_pos (show (gkc r.1 == 0) = true by simpa using hg), he]
      simp only [Option.bind_some]
      cases f with
      | true =>
        have hfl := hrep.full rfl
        rw [qe5]
        rw [if_neg (fun hh => by omega)]
        exact ⟨_, _, rfl⟩
      | false =>
        have hel := hrep.ok rfl
        have heb := hrep.bit
        have hem := hrep.len
        rw [hel] at heb hem ⊢
        simp only [Bool.not_false, if_true]
        rw [qx (by omega) (by omega), qe5]
        by_cases hq : p + (enc node r.1 fr back least k).length = r.2
        · rw [if_pos (show (((enc node r.1 fr back least k).length : Int) == (r.2 : Int) - p) = true by simp; omega)]
          unfold yV
          have := qoE (F := F) hl hm heb hem (p := p) (x17 := (r.1, (l.length : Int), (r.2 : Int))) rfl (by omega) F 0 (by omega) (by omega)
          simp only [Nat.add_zero, Nat.sub_zero, List.drop_zero] at this
          by_cases hb : (l.drop p).take (enc node r.1 fr back least k).length = enc node r.1 fr back least k
          · rw [if_pos ⟨hg, hem, hq, hb⟩]
            rw [if_pos hb] at this
            exact this
          · rw [if_neg (fun hh => hb hh.2.2.2)]
            rw [if_neg hb] at this
            exact this
        · rw [if_neg (show ¬ (((enc node r.1 fr back least k).length : Int) == (r.2 : Int) - p) = true by simp; omega), if_neg (fun hh => hq hh.2.2.1)]
          exact ⟨_, _, rfl⟩
    · rw [if_neg (show ¬ (gkc r.1 == 0) = true by simpa using hg), if_neg (fun hh => hg hh.1)]
      exact ⟨_, _, rfl⟩
theorem qei {n : Nat} {most : Int} (hn : n ≤ 1099511627776) (hm : (n : Int) ≤ most) (P R : List Int) : rgam (P ++ (ga n ++ R)) P.length most = some ((n : Int), P.length + (ga n).length) := by
  unfold rgam
  rw [← List.append_assoc, qtt hn]
  simp only [true_and]
  rw [if_pos hm, Int.toNat_natCast]
theorem qgS {n : Int} {most : Int} (h0 : 0 ≤ n) (hn : n ≤ 1099511627776) (hm : n ≤ most) (P R : List Int) : rgam (P ++ (ga n.toNat ++ R)) P.length most = some (n, P.length + (ga n.toNat).length) := by
  rw [qei (by omega) (by omega)]
  congr 2
  omega
theorem qk8 {many : Int} (hmany : many ≤ 1000000) : ∀ (bs : List Int) (b : Bool) (P R : List Int), okB (!b) bs = true → (∀ n ∈ bs, n ≤ many) → rbl (P ++ (encBs b bs ++ R)) many bs.length b P.length = some (bs, P.length + (encBs b bs).length)
  | [], b, P, R, _, _ => by simp [rbl, encBs]
  | n :: bs, b, P, R, h, hb => by
    rw [qeI] at h
    simp only [Bool.and_eq_true, Bool.or_eq_true, decide_eq_true_eq, Bool.not_eq_true'] at h
    have hn := hb n (by simp)
    have hv : 0 ≤ n - (if b = true then 1 else 0) := by
      cases b with
      | false => simp; exact h.1.1
      | true => rcases h.1.2 with h2 | h2; · simp at h2
                · simp; omega
    unfold encBs
    simp only [List.length_cons, rbl, List.append_assoc]
    rw [qgS hv (by split <;> omega) (by split <;> omega)]
    simp only [Option.bind_some]
    have := qk8 hmany bs true (P ++ ga (n - if b = true then 1 else 0).toNat) R (by simpa using h.2) (fun z hz => hb z (by simp [hz]))
    simp only [List.append_assoc, List.length_append] at this
    rw [this]
    simp only [Option.bind_some, List.length_append]
    congr 2
    · congr 1; split <;> omega
    · omega
theorem qqr {many : Int} (hmany : many ≤ 1000000) {bs : List Int} (P R : List Int) (h : okB true bs = true) (hb : ∀ n ∈ bs, n ≤ many) (hl : (bs.length : Int) ≤ many + 1) : rblk (P ++ (encB bs ++ R)) P.length many = some (bs, P.length + (encB bs).length) := by
  unfold rblk encB
  rw [List.append_assoc, qei (by omega) (by omega)]
  simp only [Option.bind_some, Int.toNat_natCast]
  have := qk8 hmany bs false (P ++ ga bs.length) R (by simpa using h) hb
  simp only [List.append_assoc, List.length_append] at this
  rw [this]
  congr 2
  rw [List.length_append]; omega
theorem qoy {least many : Int} (hle : 0 ≤ least) : ∀ (R : List (Int × Int)) (b : Bool) (a q : Int) (P T : List Int), (∀ r ∈ R, RunOk r ∧ least ≤ r.2 ∧ r.2 - least ≤ many) → Nd a → Sep q R → (b = true → a + 1 ≤ q) →
    rrn (P ++ (encRs least b a R ++ T)) least many R.length b a P.length = some (R, P.length + (encRs least b a R).length)
  | [], _, _, _, P, T, _, _, _, _ => by simp [rrn, encRs]
  | r :: R, b, a, q, P, T, hR, ha, hs, hb => by
    obtain ⟨hro, hrl, hrm⟩ := hR r (by simp)
    obtain ⟨s1, s2, s3⟩ := hs
    unfold RunOk at hro
    unfold Nd at ha
    have hf := qdV (x := r.1 - a) (by omega)
    have hf2 : foldOf (r.1 - a) ≤ 2097152 := by unfold foldOf; split <;> omega
    have hv : 0 ≤ (if b = true then r.1 - a - 2 else foldOf (r.1 - a)) ∧ (if b = true then r.1 - a - 2 else foldOf (r.1 - a)) ≤ 2097152 := by
      cases b with
      | false => simp; omega
      | true => have := hb rfl; simp; omega
    unfold encRs
    simp only [List.length_cons, rrn, List.append_assoc]
    rw [qgS hv.1 (by omega) hv.2]
    simp only [Option.bind_some]
    have e1 := qgS (n := r.2 - least) (most := many) (by omega) (by omega) hrm (P ++ ga (if b = true then r.1 - a - 2 else foldOf (r.1 - a)).toNat) (encRs least true (r.1 + r.2 - 1) R ++ T)
    simp only [List.append_assoc, List.length_append] at e1
    rw [e1]
    simp only [Option.bind_some]
    have e2 : a + (if b = true then (if b = true then r.1 - a - 2 else foldOf (r.1 - a)) + 2 else q6 (if b = true then r.1 - a - 2 else foldOf (r.1 - a))) = r.1 := by
      cases b with
      | false => simp only [Bool.false_eq_true, if_false]; rw [qfG]; omega
      | true => simp only [if_true]; omega
    rw [e2, show r.2 - least + least = r.2 from by omega]
    have := qoy hle R true (r.1 + r.2 - 1) (r.1 + r.2) ((P ++ ga (if b = true then r.1 - a - 2 else foldOf (r.1 - a)).toNat) ++ ga (r.2 - least).toNat) T (fun z hz => hR z (by simp [hz])) (by unfold Nd; omega) s3 (fun _ => by omega)
    simp only [List.append_assoc, List.length_append] at this
    rw [show P.length + (ga (if b = true then r.1 - a - 2 else foldOf (r.1 - a)).toNat).length + (ga (r.2 - least).toNat).length = P.length + ((ga (if b = true then r.1 - a - 2 else foldOf (r.1 - a)).toNat).length + (ga (r.2 - least).toNat).length) from by omega, this]
    simp only [Option.bind_some, List.length_append]
    congr 2
    omega
theorem qjE {least q : Int} (hle : 2 ≤ least) : ∀ {R : List (Int × Int)}, Sep q R → (∀ r ∈ R, least ≤ r.2) → least * (R.length : Int) ≤ ((flat R).length : Int)
  | [], _, _ => by simp [flat]
  | r :: R, hs, hR => by
    have h1 := hR r (by simp)
    have := qjE hle hs.2.2 (fun z hz => hR z (by simp [hz]))
    rw [zp, List.length_append, yk, List.length_cons]
    rw [show ((R.length + 1 : Nat) : Int) = (R.length : Int) + 1 from by omega, Int.mul_add]
    omega
theorem qqC {least many node q : Int} (hle : 2 ≤ least) {R : List (Int × Int)} (P T : List Int) (hR : ∀ r ∈ R, RunOk r ∧ least ≤ r.2) (hn : Nd node) (hs : Sep q R) (hm : ((flat R).length : Int) ≤ many) (hmm : many ≤ 300) :
    rrns (P ++ (encR least node R ++ T)) P.length node least many = some (R, P.length + (encR least node R).length) := by
  unfold rrns encR
  have h1 := qjE hle hs (fun r hr => (hR r hr).2)
  have h2 : (R.length : Int) ≤ many / least := by
    rw [Int.le_ediv_iff_mul_le (by omega)]
    rw [Int.mul_comm] at h1
    omega
  have h3 : many / least ≤ many := Int.ediv_le_self _ (by omega)
  rw [List.append_assoc, qei (by omega) h2]
  simp only [Option.bind_some, Int.toNat_natCast]
  have := qoy (least := least) (many := many) (by omega) R false node q (P ++ ga R.length) T (fun r hr => ⟨(hR r hr).1, (hR r hr).2, by have := qfJ hr; omega⟩) hn hs (by simp)
  simp only [List.append_assoc, List.length_append] at this
  rw [this]
  congr 2
  rw [List.length_append]; omega
theorem qhK {rest : List Int} {least : Int} (h : gkc rest = 0) : skc (encO rest least) = 0 ∧ Ris (-1) (encS rest least) ∧ (flat (encO rest least) ++ encS rest least).Perm rest ∧ (flat (encO rest least)).Pairwise (· ≤ ·) := by
  obtain ⟨hm, hs⟩ := zA.1 h
  unfold encO encS
  by_cases hl : 0 < least
  · rw [if_pos hl, if_pos hl]
    exact ⟨qsh hm hs _, qhP hs _, qmy _ _, qin (vM (qhP hs _)).1⟩
  · rw [if_neg hl, if_neg hl]
    exact ⟨by decide, hs, by simp [flat], by simp [flat]⟩
theorem qms {k : Nat} (h1 : 1 ≤ k) (h2 : k ≤ 16) {node least : Int} (hn : Nd node) {rest out x : List Int} (hr : gkc rest = 0) (hx : gkc x = 0) (hp : (out ++ rest).Perm x) (P T : List Int) :
    rls2 (P ++ (zes k (gp false node (encS rest least)) ++ T)) node k x.length out (encO rest least) P.length = some (x, P.length + (zes k (gp false node (encS rest least))).length) := by
  obtain ⟨e1, e2, e3, e4⟩ := qhK (least := least) hr
  have hrm := (zA.1 hr).1
  have hlen := e3.length_eq
  have hlen2 := hp.length_eq
  rw [List.length_append] at hlen hlen2
  have hrmm : rm (encO rest least) [] = (flat (encO rest least), 0) := qo7 e1 (by decide) (by rw [qnV]; simp) (by simp) e4 (by omega)
  unfold rls2
  rw [hrmm]
  simp only [true_and]
  rw [if_pos (by omega), show ((x.length : Int) - out.length - (flat (encO rest least)).length).toNat = (gp false node (encS rest least)).length from by rw [qha]; omega]
  have h40 : L40 (gp false node (encS rest least)) := fun z hz => by have := qjB hn e2 (by simp) z hz; omega
  have := qkP h1 h2 P T h40 (qpB (b := false) hn e2 (by simp))
  rw [List.append_assoc] at this
  rw [this]
  simp only
  have hpx : (out ++ (flat (encO rest least) ++ encS rest least)).Perm x := (List.Perm.append_left out e3).trans hp
  rw [qfC hpx (qin (qfq hx))]
theorem qmr {k : Nat} (h1 : 1 ≤ k) (h2 : k ≤ 16) {node least : Int} (hn : Nd node) (hle : least = 0 ∨ 2 ≤ least ∧ least ≤ 300) {rest out x : List Int} (hr : gkc rest = 0) (hx : gkc x = 0) (ho : out.Pairwise (· ≤ ·)) (hp : (out ++ rest).Perm x) (P T : List Int) :
    rls1 (P ++ (encL node rest least k ++ T)) node least k x.length out P.length = some (x, P.length + (encL node rest least k).length) := by
  have hlen2 := hp.length_eq
  have hxm := (zA.1 hx).1
  obtain ⟨hrm, hrs⟩ := zA.1 hr
  rw [List.length_append] at hlen2
  unfold rls1 encL
  by_cases h0 : rest = []
  · subst h0
    simp only [List.length_nil, Nat.add_zero] at hlen2
    rw [if_pos (by omega), if_pos rfl]
    rw [List.append_nil] at hp
    have e1 := qfC hp (qin (qfq hx))
    have e2 := qfC (List.Perm.refl out) ho
    rw [e2] at e1
    rw [e1]; simp
  · have hl0 : rest.length ≠ 0 := by simpa using h0
    rw [if_neg (by omega), if_neg h0]
    by_cases hl : 0 < least
    · obtain ⟨e1, e2, e3, e4⟩ := qhK (least := least) hr
      have hlen := e3.length_eq
      rw [List.length_append] at hlen
      obtain ⟨r1, r2⟩ := qjR hrm hrs
      have hO : encO rest least = spO least (rs rest) := by unfold encO; rw [if_pos hl]
      rw [if_pos hl, if_pos hl, List.append_assoc, qqC (q := -1) (by omega) _ _ (fun r hrr => by rw [hO] at hrr; exact ⟨r2 r (List.mem_filter.1 hrr).1, by simpa using (List.mem_filter.1 hrr).2⟩) hn (by rw [hO]; exact qb0 _ r1) (by omega) (by omega)]
      simp only [Option.bind_some]
      have := qms (least := least) h1 h2 hn hr hx hp (P ++ encR least node (encO rest least)) T
      simp only [List.append_assoc, List.length_append] at this
      rw [this, List.length_append]
      congr 2
      omega
    · rw [if_neg hl, if_neg hl, List.nil_append]
      have hO : encO rest least = [] := by unfold encO; rw [if_neg hl]
      have := qms (least := least) h1 h2 hn hr hx hp P T
      rw [hO] at this
      exact this
theorem qot {k : Nat} (h1 : 1 ≤ k) (h2 : k ≤ 16) {node back least : Int} {x fr : List Int} (hn : Nd node) (hle : least = 0 ∨ 2 ≤ least ∧ least ≤ 300) (hx : gkc x = 0) (hfr : 0 < back → gkc fr = 0) (P T : List Int) :
    rls (P ++ (enc node x fr back least k ++ T)) P.length node fr back least k = some (x, P.length + (enc node x fr back least k).length) := by
  have hxm := (zA.1 hx).1
  unfold rls enc rstO
  rw [List.append_assoc, qei (by omega) (by omega)]
  simp only [Option.bind_some]
  by_cases h0 : x = []
  · subst h0
    rw [if_pos (by simp), if_pos rfl]
    simp
  · have hx0 : x.length ≠ 0 := by simpa using h0
    rw [if_neg (by omega), if_neg h0]
    by_cases hb : 0 < back
    · have hfg := hfr hb
      have hfl := (zA.1 hfg).1
      rw [if_pos hb, if_pos hb, if_pos hb]
      have htl := qfX fr x
      have hok : okB true (tbs fr x) = true := qft _ _ _ _ (by omega) (Or.inl rfl)
      have hsum : bsum (tbs fr x) ≤ 0 + (fr.map (hasB x)).length := qed _ _ _ (by omega)
      rw [List.length_map] at hsum
      have e1 := qqr (many := (fr.length : Int)) (by omega) (bs := tbs fr x) (P ++ ga x.length) (encL node (rst fr x) least k ++ T) hok (fun n hnm => by have := qfM hok n hnm; omega) (by omega)
      simp only [List.append_assoc, List.length_append] at e1
      rw [List.append_assoc, e1]
      simp only [Option.bind_some]
      rw [qnW hfg]
      have hbe := qmd hfg hx
      have hfx : (fr.filter (hasB x)).length ≤ x.length := by rw [hbe]; exact List.length_filter_le _ _
      rw [if_pos ⟨rfl, by simp only; omega⟩]
      have hperm : (fr.filter (hasB x) ++ rst fr x).Perm x := by rw [hbe]; exact qjy _ _
      have := qmr h1 h2 hn hle (qgT hx) hx (qin ((qfq hfg).sublist List.filter_sublist)) hperm ((P ++ ga x.length) ++ encB (tbs fr x)) T
      simp only [List.append_assoc, List.length_append] at this
      simp only
      rw [show P.length + (ga x.length).length + (encB (tbs fr x)).length = P.length + ((ga x.length).length + (encB (tbs fr x)).length) from by omega, this]
      congr 2
      simp only [List.length_append]; omega
    · rw [if_neg hb, if_neg hb, if_neg hb, List.nil_append]
      have := qmr h1 h2 hn hle hx hx (out := []) (by simp) (by simp) (P ++ ga x.length) T
      simp only [List.append_assoc, List.length_append] at this
      rw [this, List.length_append]
      congr 2
      omega
def hcB (back least k : Int) : Prop := back < 0 ∨ 7 < back ∨ least < 0 ∨ least = 1 ∨ 300 < least ∨ k < 1 ∨ 16 < k
instance hcDec (back least k : Int) : Decidable (hcB back least k) := inferInstanceAs (Decidable (_ ∨ _))
def hcE (back least k : Int) : Int := if hcB back least k then 3 else 0
def scE (node : Int) (fr : List Int) (back : Int) : Int := if Nd node then (if 0 < back then gkc fr else 0) else 3
theorem qhc {F : Nat} {back least k : Int} : qbb F back least k = some (hcE back least k) := by
  unfold qbb hcE
  by_cases h : hcB back least k
  · rw [if_pos (by unfold hcB at h; simp only [Bool.or_eq_true, decide_eq_true_eq, beq_iff_eq]; omega), if_pos h]
  · rw [if_neg (by unfold hcB at h; simp only [Bool.or_eq_true, decide_eq_true_eq, beq_iff_eq]; omega), if_neg h]
theorem qpd {F : Nat} (hF : 20000 ≤ F) {node back least k : Int} {fr : List Int} : qdz F node fr back least k = some (scE node fr back) := by
  unfold qdz scE
  rw [qoh]
  by_cases h : Nd node
  · rw [if_neg (by simp [h]), if_pos h]
    by_cases hb : 0 < back
    · rw [if_pos (by simpa using hb), if_pos hb, qeG hF]; rfl
    · rw [if_neg (by simpa using hb), if_neg hb]
  · rw [if_pos (by simp [h]), if_neg h]
theorem qbZ {back least k : Int} (h : hcE back least k = 0) : (0 ≤ back ∧ back ≤ 7) ∧ (least = 0 ∨ 2 ≤ least ∧ least ≤ 300) ∧ ∃ k' : Nat, k = (k' : Int) ∧ 1 ≤ k' ∧ k' ≤ 16 := by
  unfold hcE at h
  split at h
  · simp at h
  · rename_i h1
    unfold hcB at h1
    exact ⟨by omega, by omega, k.toNat, by omega, by omega, by omega⟩
theorem qqK {node back : Int} {fr : List Int} (h : scE node fr back = 0) : Nd node ∧ (0 < back → gkc fr = 0) := by
  unfold scE at h
  split at h
  · rename_i hn
    refine ⟨hn, fun hb => ?_⟩
    rw [if_pos hb] at h; exact h
  · simp at h
theorem qqJ {node back : Int} {fr : List Int} (h : Nd node) (h2 : 0 < back → gkc fr = 0) : scE node fr back = 0 := by
  unfold scE
  rw [if_pos h]
  split
  · rename_i hb; exact h2 hb
  · rfl
def srE (m : Int) (b : List Int) (p node : Int) (fr : List Int) (back least k : Int) : Int := if hcE back least k ≠ 0 then hcE back least k else if raOf m b p ≠ 0 then raOf m b p else scE node fr back
def sr (m : Int) (b : List Int) (p node : Int) (fr : List Int) (back least k : Int) : List Int × Int × Int :=
  if srE m b p node fr back least k ≠ 0 then ([], 0, srE m b p node fr back least k) else
  match rdl (bl b m.toNat) p.toNat node fr back least k.toNat with
  | none => ([], 0, 1)
  | some r => (r.1, (r.2 : Int), 0)
theorem qqN {F k : Nat} (hF : 2000000 ≤ F) (h1 : 1 ≤ k) (h2 : k ≤ 16) {l : List Int} (hl : Bit l) (hm : l.length ≤ 8192) {node back least : Int} {fr : List Int} (hn : Nd node) {p : Nat} (hp : p ≤ l.length) (hfr : 0 < back → gkc fr = 0) (hle : least = 0 ∨ 2 ≤ least ∧ least ≤ 300) :
    qb4 F (l.length : Int) (pk l) (p : Int) node fr back least (k : Int) = some (match rdl l p node fr back least k with | none => ([], 0, 1) | some r => (r.1, (r.2 : Int), 0)) := by
  have := qqB hF h1 h2 hl hm hn hp hfr hle
  unfold qb4
  cases h : rdl l p node fr back least k with
  | none =>
    rw [h] at this
    obtain ⟨a, b, e⟩ := this
    rw [e]; rfl
  | some r =>
    rw [h] at this
    simp only at this
    rw [this]; rfl
theorem qtd {m p node back least k : Int} {b fr : List Int} (h : srE m b p node fr back least k = 0) : hcE back least k = 0 ∧ raOf m b p = 0 ∧ scE node fr back = 0 := by
  unfold srE at h
  by_cases h1 : hcE back least k = 0
  · rw [if_neg (by simp [h1])] at h
    by_cases h2 : raOf m b p = 0
    · rw [if_neg (by simp [h2])] at h; exact ⟨h1, h2, h⟩
    · rw [if_pos h2] at h; exact absurd h h2
  · rw [if_pos h1] at h; exact absurd h h1
def swE (node : Int) (x fr : List Int) (back least k : Int) : Int := if hcE back least k ≠ 0 then hcE back least k else if ¬ Nd node then 3 else if gkc x ≠ 0 then gkc x else scE node fr back
def sw (node : Int) (x fr : List Int) (back least k : Int) : Int × List Int × Int :=
  if swE node x fr back least k ≠ 0 then (0, [], swE node x fr back least k) else
  if 8192 < (enc node x fr back least k.toNat).length then (0, [], 8) else (((enc node x fr back least k.toNat).length : Int), pk (enc node x fr back least k.toNat), 0)
theorem qtg {node back least k : Int} {x fr : List Int} (h : swE node x fr back least k = 0) : hcE back least k = 0 ∧ Nd node ∧ gkc x = 0 ∧ (0 < back → gkc fr = 0) := by
  unfold swE at h
  by_cases h1 : hcE back least k = 0
  · rw [if_neg (by simp [h1])] at h
    by_cases h2 : Nd node
    · rw [if_neg (by simpa using h2)] at h
      by_cases h3 : gkc x = 0
      · rw [if_neg (by simp [h3])] at h
        exact ⟨h1, h2, h3, (qqK h).2⟩
      · rw [if_pos h3] at h; exact absurd h h3
    · rw [if_pos h2] at h; simp at h
  · rw [if_pos h1] at h; exact absurd h h1
theorem qtf {node back least k : Int} {x fr : List Int} (h1 : hcE back least k = 0) (h2 : Nd node) (h3 : gkc x = 0) (h4 : 0 < back → gkc fr = 0) : swE node x fr back least k = 0 := by
  unfold swE
  rw [if_neg (by simp [h1]), if_neg (by simpa using h2), if_neg (by simp [h3])]
  exact qqJ h2 h4
theorem qph {F : Nat} (hF : 2000000 ≤ F) {node back least k : Int} {x fr : List Int} : qdy F node x fr back least k = some (sw node x fr back least k) := by
  have hj : jZ F node x fr back least k (swE node x fr back least k) = some (sw node x fr back least k) := by
    unfold jZ sw
    by_cases h : swE node x fr back least k = 0
    · rw [if_neg (by simp [h]), if_neg (by simp [h])]
      obtain ⟨h1, h2, h3, h4⟩ := qtg h
      obtain ⟨k1, k2, k', rfl, k3, k4⟩ := qbZ h1
      obtain ⟨l, f, e, hr⟩ := qmI hF k3 k4 h2 h3 h4 k2
      rw [e]
      simp only [Option.bind_some, Int.toNat_natCast]
      cases f with
      | true => have := hr.full rfl; rw [if_pos rfl, if_pos this]
      | false =>
        have e1 := hr.ok rfl
        have e2 := hr.len
        rw [e1] at e2 ⊢
        rw [if_neg (by simp), if_neg (by omega)]
    · rw [if_pos (by simpa using h), if_pos h]
  unfold qdy
  rw [qhc]
  simp only [Option.bind_some]
  by_cases h1 : hcE back least k = 0
  · rw [if_pos (by simpa using h1), qoh]
    unfold j1
    by_cases h2 : Nd node
    · rw [if_neg (by simp [h2])]
      unfold vh
      rw [if_pos (by simpa using h1), qeG (by omega)]
      simp only [Option.bind_some]
      unfold vi
      by_cases h3 : gkc x = 0
      · have e : swE node x fr back least k = scE node fr back := by unfold swE; rw [if_neg (by simp [h1]), if_neg (by simpa using h2), if_neg (by simp [h3])]
        rw [if_pos (by simpa using h3), qpd (by omega), ← e]
        exact hj
      · have e : swE node x fr back least k = gkc x := by unfold swE; rw [if_neg (by simp [h1]), if_neg (by simpa using h2), if_pos h3]
        rw [if_neg (by simpa using h3), ← e]
        exact hj
    · have e : swE node x fr back least k = 3 := by unfold swE; rw [if_neg (by simp [h1]), if_pos h2]
      rw [if_pos (by simp [h2])]
      unfold vh
      rw [if_neg (by decide)]
      unfold vi
      rw [if_neg (by decide), ← e]
      exact hj
  · have e : swE node x fr back least k = hcE back least k := by unfold swE; rw [if_pos h1]
    rw [if_neg (by simpa using h1)]
    unfold j1
    rw [if_neg (by simp)]
    unfold vh
    rw [if_neg (by simpa using h1)]
    unfold vi
    rw [if_neg (by simpa using h1), ← e]
    exact hj
theorem qr4 {k : Nat} (h1 : 1 ≤ k) (h2 : k ≤ 16) {node back least : Int} {x fr : List Int} (hn : Nd node) (hle : least = 0 ∨ 2 ≤ least ∧ least ≤ 300) (hx : gkc x = 0) (hfr : 0 < back → gkc fr = 0) (P T : List Int) (hL : (enc node x fr back least k).length ≤ 8192) :
    rdl (P ++ (enc node x fr back least k ++ T)) P.length node fr back least k = some (x, P.length + (enc node x fr back least k).length) := by
  unfold rdl
  rw [qot h1 h2 hn hle hx hfr]
  simp only [Option.bind_some]
  rw [if_pos (by refine ⟨hx, hL, ?_, ?_⟩ <;> simp)]
theorem qgQ {k : Nat} {l : List Int} {p : Nat} {node back least : Int} {fr : List Int} {r : List Int × Nat} (hl : Bit l) (h1 : 1 ≤ k) (h : rdl l p node fr back least k = some r) :
    gkc r.1 = 0 ∧ (enc node r.1 fr back least k).length ≤ 8192 ∧ p + (enc node r.1 fr back least k).length = r.2 ∧ (l.drop p).take (enc node r.1 fr back least k).length = enc node r.1 fr back least k ∧ r.2 ≤ l.length := by
  unfold rdl at h
  rw [Option.bind_eq_some_iff] at h
  obtain ⟨r', h2, h⟩ := h
  split at h
  · rename_i hc
    simp only [Option.some.injEq] at h
    subst h
    exact ⟨hc.1, hc.2.1, hc.2.2.1, hc.2.2.2, qqy hl h1 h2⟩
  · simp at h
theorem qkK {node back least : Int} {x fr : List Int} {k : Nat} : Bit (enc node x fr back least k) := by
  have hn : Bit ([] : List Int) := by intro z hz; simp at hz
  have h1 : ∀ (bs : List Int) (b : Bool), Bit (encBs b bs) := by
    intro bs
    induction bs with
    | nil => intro b; exact hn
    | cons n bs ih => intro b; exact yX (qe0 _) (ih true)
  have h2 : ∀ (R : List (Int × Int)) (b : Bool) (a : Int), Bit (encRs least b a R) := by
    intro R
    induction R with
    | nil => intro b a; exact hn
    | cons r R ih => intro b a; exact yX (qe0 _) (yX (qe0 _) (ih true _))
  unfold enc encL encB encR
  refine yX (qe0 _) ?_
  split
  · exact hn
  · refine yX ?_ ?_
    · split
      · exact yX (qe0 _) (h1 _ _)
      · exact hn
    · split
      · exact hn
      · refine yX ?_ (qoL _ _)
        split
        · exact yX (qe0 _) (h2 _ _ _)
        · exact hn
theorem qtB {node back least k : Int} {x fr : List Int} (h : swE node x fr back least k = 0) (h2 : (enc node x fr back least k.toNat).length ≤ 8192) : sw node x fr back least k = (((enc node x fr back least k.toNat).length : Int), pk (enc node x fr back least k.toNat), 0) := by
  unfold sw; rw [if_neg (by simp [h]), if_neg (by omega)]
theorem qtA {l : List Int} (hl : Bit l) (hm : l.length ≤ 8192) {p : Nat} (hp : p ≤ l.length) {node back least k : Int} {fr : List Int} (h1 : hcE back least k = 0) (h2 : scE node fr back = 0) :
    sr (l.length : Int) (pk l) (p : Int) node fr back least k = match rdl l p node fr back least k.toNat with | none => ([], 0, 1) | some r => (r.1, (r.2 : Int), 0) := by
  have e : srE (l.length : Int) (pk l) (p : Int) node fr back least k = 0 := by
    unfold srE
    rw [if_neg (by simp [h1]), qr3 hm hp, if_neg (by simp), h2]
  unfold sr
  rw [if_neg (by simp [e])]
  simp only [Int.toNat_natCast, qbg hl]
def rowE (n : Int) : Int → List Int → Int
  | _, [] => 0
  | last, x :: l => if x < 0 ∨ n ≤ x then 3 else if x ≤ last then 4 else rowE n x l
def gE (n : Int) : List (List Int) → Int
  | [] => 0
  | l :: g => if rowE n (-1) l ≠ 0 then rowE n (-1) l else gE n g
def gtot : List (List Int) → Nat
  | [] => 0
  | l :: g => l.length + gtot g
def gchk (g : List (List Int)) : Int := if 100 < g.length then 2 else if gE g.length g ≠ 0 then gE g.length g else if 600 < gtot g then 2 else 0
theorem qhN : ∀ {n last : Int} {l : List Int}, rowE n last l = 0 ↔ (l.Pairwise (· < ·) ∧ ∀ x ∈ l, last < x) ∧ ∀ x ∈ l, 0 ≤ x ∧ x < n
  | n, last, [] => by simp [rowE]
  | n, last, x :: l => by
    unfold rowE
    by_cases h1 : x < 0 ∨ n ≤ x
    · rw [if_pos h1]
      constructor
      · intro h; simp at h
      · rintro ⟨_, h⟩; have := h x (by simp); omega
    · rw [if_neg h1]
      by_cases h2 : x ≤ last
      · rw [if_pos h2]
        constructor
        · intro h; simp at h
        · rintro ⟨⟨_, h⟩, _⟩; have := h x (by simp); omega
      · rw [if_neg h2, qhN, List.pairwise_cons]
        constructor
        · rintro ⟨⟨a1, a2⟩, a3⟩
          refine ⟨⟨⟨a2, a1⟩, fun y hy => ?_⟩, fun y hy => ?_⟩
          · rcases List.mem_cons.1 hy with rfl | hy
            · omega
            · have := a2 y hy; omega
          · rcases List.mem_cons.1 hy with rfl | hy
            · omega
            · exact a3 y hy
        · rintro ⟨⟨⟨a1, a2⟩, a3⟩, a4⟩
          exact ⟨⟨a2, a1⟩, fun y hy => a4 y (by simp [hy])⟩
theorem qhO {n last : Int} : ∀ {l : List Int}, -1 ≤ last → last < n → rowE n last l = 0 → last + 1 + l.length ≤ n
  | [], h1, h2, _ => by simp; omega
  | x :: l, h1, h2, h => by
    unfold rowE at h
    split at h
    · simp at h
    · split at h
      · simp at h
      · have := qhO (l := l) (by omega) (by omega) h
        rw [List.length_cons]; omega
theorem qpR {n : Int} : ∀ {g : List (List Int)}, gE n g = 0 ↔ ∀ l ∈ g, rowE n (-1) l = 0
  | [] => by simp [gE]
  | l :: g => by
    unfold gE
    by_cases h : rowE n (-1) l = 0
    · rw [if_neg (by simp [h]), qpR]; simp [h]
    · rw [if_pos h]; simp [h]
def Gr (g : List (List Int)) : Prop := g.length ≤ 100 ∧ (∀ l ∈ g, l.Pairwise (· < ·) ∧ ∀ x ∈ l, 0 ≤ x ∧ x < g.length) ∧ gtot g ≤ 600
theorem qef {g : List (List Int)} : gchk g = 0 ↔ Gr g := by
  unfold gchk Gr
  by_cases h1 : 100 < g.length
  · rw [if_pos h1]; simp; omega
  · rw [if_neg h1]
    by_cases h2 : gE g.length g = 0
    · rw [if_neg (by simp [h2])]
      have h3 := qpR.1 h2
      have h4 : ∀ l ∈ g, l.Pairwise (· < ·) ∧ ∀ x ∈ l, 0 ≤ x ∧ x < (g.length : Int) := fun l hl => by
        have := qhN.1 (h3 l hl)
        exact ⟨this.1.1, this.2⟩
      by_cases h5 : 600 < gtot g
      · rw [if_pos h5]; simp; omega
      · rw [if_neg h5]
        exact ⟨fun _ => ⟨by omega, h4, by omega⟩, fun _ => rfl⟩
    · rw [if_pos h2]
      refine ⟨fun h => absurd h h2, fun h => absurd (qpR.2 fun l hl => qhN.2 ⟨⟨(h.2.1 l hl).1, fun x hx => ?_⟩, (h.2.1 l hl).2⟩) h2⟩
      have := (h.2.1 l hl).2 x hx; omega
theorem qpX {g : List (List Int)} (h : Gr g) {l : List Int} (hl : l ∈ g) : l.length ≤ 100 := by
  have h1 := (h.2.1 l hl).2
  have h2 : rowE g.length (-1) l = 0 := qhN.2 ⟨⟨(h.2.1 l hl).1, fun x hx => by have := h1 x hx; omega⟩, h1⟩
  have := qhO (by omega) (by omega) h2
  have := h.1
  omega
theorem qlT {F : Nat} {rec38 : (Int × Int) → Option Int} {g : List (List Int)} {m i : Int} {l : List Int} (hg : g.length ≤ 100) : ∀ (k j : Nat) (last : Int), 102 < k + j → (j : Int) ≤ last + 1 → last < g.length → -1 ≤ last →
    yd F rec38 g m i l k (last, (j : Int)) = if rowE g.length last (l.drop j) ≠ 0 then some (rowE g.length last (l.drop j)) else qap F rec38 m i l
  | 0, j, last, h, h1, h2, h3 => by omega
  | k + 1, j, last, h, h1, h2, h3 => by
    show qao F rec38 g m i l (yd F rec38 g m i l k) last (j : Int) = _
    unfold qao
    by_cases hlt : j < l.length
    · rw [if_pos (by simp; omega), qs, List.getElem?_eq_getElem hlt, List.drop_eq_getElem_cons hlt]
      simp only [Option.bind_some]
      unfold rowE
      by_cases c1 : l[j] < 0 ∨ (g.length : Int) ≤ l[j]
      · rw [if_pos (by simpa using c1), if_pos c1, if_pos (by decide)]
      · rw [if_neg (by simpa using c1), if_neg c1]
        by_cases c2 : l[j] ≤ last
        · rw [if_pos (by simpa using c2), if_pos c2, if_pos (by decide)]
        · rw [if_neg (by simpa using c2), if_neg c2, qn (by omega)]
          exact qlT hg k (j + 1) l[j] (by omega) (by omega) (by omega) (by omega)
    · rw [if_neg (by simp; omega), List.drop_eq_nil_of_le (by omega)]
      rw [if_neg (by simp [rowE])]
theorem qjs {F : Nat} (hF : 1000 ≤ F) {g : List (List Int)} (hg : g.length ≤ 100) : ∀ (k i : Nat) (m : Nat), g.length < k + i → i ≤ g.length → m ≤ 100 * i →
    qZ F g k ((m : Int), (i : Int)) = if gE g.length (g.drop i) ≠ 0 then some (gE g.length (g.drop i)) else if 600 < m + gtot (g.drop i) then some 2 else some 0
  | 0, _, _, _, _, _ => by omega
  | k + 1, i, m, h, hi, hm => by
    show qan F g (qZ F g k) (m : Int) (i : Int) = _
    unfold qan
    by_cases hlt : i < g.length
    · rw [if_pos (by simp; omega), qs, List.getElem?_eq_getElem hlt, List.drop_eq_getElem_cons hlt]
      simp only [Option.bind_some]
      have hin := qlT (F := F) (rec38 := qZ F g k) (m := (m : Int)) (i := (i : Int)) (l := g[i]) hg F 0 (-1) (by omega) (by omega) (by omega) (by omega)
      rw [List.drop_zero, show ((0 : Nat) : Int) = 0 from rfl] at hin
      rw [hin]
      unfold gE gtot
      by_cases hr : rowE g.length (-1) g[i] = 0
      · have hlen := qhO (by omega) (by omega) hr
        have e : (if rowE (g.length : Int) (-1) g[i] ≠ 0 then rowE (g.length : Int) (-1) g[i] else gE (g.length : Int) (g.drop (i + 1))) = gE (g.length : Int) (g.drop (i + 1)) := if_neg (by simp [hr])
        rw [if_neg (show ¬ rowE (g.length : Int) (-1) g[i] ≠ 0 by simp [hr]), e]
        unfold qap qck
        rw [vL (by omega), qn (by omega), qjs hF hg k (i + 1) (m + g[i].length) (by omega) (by omega) (by omega), Nat.add_assoc]
      · rw [if_pos (by simpa using hr)]
        have e : (if rowE (g.length : Int) (-1) g[i] ≠ 0 then rowE (g.length : Int) (-1) g[i] else gE (g.length : Int) (g.drop (i + 1))) = rowE (g.length : Int) (-1) g[i] := if_pos hr
        rw [e, if_pos hr]
    · rw [if_neg (by simp; omega), List.drop_eq_nil_of_le (by omega)]
      unfold qcj
      rw [if_neg (show ¬ gE (g.length : Int) [] ≠ 0 by simp [gE])]
      by_cases h6 : 600 < m
      · rw [if_pos (by simp; omega), if_pos (by simpa [gtot] using h6)]
      · rw [if_neg (by simp; omega), if_neg (by simpa [gtot] using h6)]
theorem qji {F : Nat} (hF : 1000 ≤ F) {g : List (List Int)} : qc3 F g = some (gchk g) := by
  unfold qc3 gchk
  by_cases h : 100 < g.length
  · rw [if_pos (by simp; omega), if_pos h]
  · have := qjs hF (g := g) (by omega) F 0 0 (by omega) (by omega) (by omega)
    rw [List.drop_zero, Nat.zero_add, show ((0 : Nat) : Int) = 0 from rfl] at this
    rw [if_neg (by simp; omega), if_neg h, this]
    split
    · rfl
    · split <;> rfl
theorem qjM {F : Nat} {rec138 : (Int × Int) → Option Int} {g : List (List Int)} {i m : Nat} {l : List Int} (hg : g.length ≤ 100) (hl : g[i]? = some l) (hm : m ≤ 100000) : ∀ (k j : Nat), 102 < k + j → j ≤ l.length → ((j : Int) ≤ (if 0 < j then l.getD (j - 1) 0 else -1) + 1) → ((if 0 < j then l.getD (j - 1) 0 else -1) < (g.length : Int)) →
    q5 F rec138 g (i : Int) k (((m + j : Nat) : Int), (j : Int)) = if rowE g.length (if 0 < j then l.getD (j - 1) 0 else -1) (l.drop j) ≠ 0 then some (rowE g.length (if 0 < j then l.getD (j - 1) 0 else -1) (l.drop j)) else zV F rec138 (i : Int) ((m + l.length : Nat) : Int)
  | 0, j, h, hj, h1, h2 => by omega
  | k + 1, j, h, hj, h1, h2 => by
    have hg0 : 0 < g.length := by have := (List.getElem?_eq_some_iff.1 hl).1; omega
    show vO F rec138 g (i : Int) (q5 F rec138 g (i : Int) k) ((m + j : Nat) : Int) (j : Int) = _
    unfold vO
    rw [qs, hl]
    simp only [Option.bind_some]
    by_cases hlt : j < l.length
    · have hrec := qjM (F := F) (rec138 := rec138) hg hl hm k (j + 1) (by omega) (by omega)
      have hgd : l.getD (j + 1 - 1) 0 = l[j] := by simp [List.getD, List.getElem?_eq_getElem hlt]
      rw [if_pos (show 0 < j + 1 by omega), hgd] at hrec
      rw [if_pos (by simp; omega), qs, List.getElem?_eq_getElem hlt, List.drop_eq_getElem_cons hlt]
      simp only [Option.bind_some]
      unfold zE rowE
      rw [vU (by omega) (by omega)]
      simp only [Option.bind_some]
      by_cases c1 : l[j] < 0 ∨ (g.length : Int) ≤ l[j]
      · rw [if_pos (by simp; omega), if_pos c1, if_pos (by decide)]
      · rw [if_neg (by simp; omega), if_neg c1]
        have hgo : zW F (q5 F rec138 g (i : Int) k) ((m + j : Nat) : Int) (j : Int) false = (if rowE (g.length : Int) l[j] (l.drop (j + 1)) ≠ 0 then some (rowE (g.length : Int) l[j] (l.drop (j + 1))) else zV F rec138 (i : Int) ((m + l.length : Nat) : Int)) → (l[j] ≤ (if 0 < j then l.getD (j - 1) 0 else -1)) = False →
            zW F (q5 F rec138 g (i : Int) k) ((m + j : Nat) : Int) (j : Int) false = if (if l[j] ≤ (if 0 < j then l.getD (j - 1) 0 else -1) then 4 else rowE (g.length : Int) l[j] (l.drop (j + 1))) ≠ 0 then some (if l[j] ≤ (if 0 < j then l.getD (j - 1) 0 else -1) then 4 else rowE (g.length : Int) l[j] (l.drop (j + 1))) else zV F rec138 (i : Int) ((m + l.length : Nat) : Int) := by
          intro h3 h4
          simp only [h4, if_false]
          exact h3
        have hnext : (¬ l[j] ≤ (if 0 < j then l.getD (j - 1) 0 else -1)) → zW F (q5 F rec138 g (i : Int) k) ((m + j : Nat) : Int) (j : Int) false = if rowE (g.length : Int) l[j] (l.drop (j + 1)) ≠ 0 then some (rowE (g.length : Int) l[j] (l.drop (j + 1))) else zV F rec138 (i : Int) ((m + l.length : Nat) : Int) := by
          intro hn
          unfold zW
          rw [if_neg (by simp), qn (by omega), qn (by omega)]
          exact hrec (by omega) (by omega)
        by_cases hj0 : 0 < j
        · have hlt2 : j - 1 < l.length := by omega
          have hgd2 : l.getD (j - 1) 0 = l[j - 1] := by simp [List.getD, List.getElem?_eq_getElem hlt2]
          rw [if_pos (by simp; omega), vU (by omega) (by omega), qs, List.getElem?_eq_getElem hlt2]
          simp only [Option.bind_some]
          by_cases c2 : l[j] ≤ l[j - 1]
          · rw [decide_eq_true c2, if_pos hj0, hgd2, if_pos c2, if_pos (by decide)]
            rfl
          · rw [decide_eq_false c2]
            exact hgo (hnext (by rw [if_pos hj0, hgd2]; exact c2)) (by rw [if_pos hj0, hgd2]; exact eq_false c2)
        · have : j = 0 := by omega
          subst this
          rw [if_neg (by simp)]
          exact hgo (hnext (by simp; omega)) (by simp; omega)
    · rw [if_neg (by simp; omega), List.drop_eq_nil_of_le (by omega), show m + j = m + l.length from by omega, if_neg (by simp [rowE])]
theorem qip {F : Nat} (hF : 1000 ≤ F) {g : List (List Int)} (hg : g.length ≤ 100) : ∀ (k i : Nat) (m : Nat), g.length < k + i → i ≤ g.length → m ≤ 100 * i →
    qO F g k ((m : Int), (i : Int)) = if gE g.length (g.drop i) ≠ 0 then some (gE g.length (g.drop i)) else if 600 < m + gtot (g.drop i) then some 2 else some 0
  | 0, _, _, _, _, _ => by omega
  | k + 1, i, m, h, hi, hm => by
    show vN F g (qO F g k) (m : Int) (i : Int) = _
    unfold vN
    by_cases hlt : i < g.length
    · rw [if_pos (by simp; omega), List.drop_eq_getElem_cons hlt]
      have hin := qjM (F := F) (rec138 := qO F g k) (m := m) (i := i) (l := g[i]) hg (List.getElem?_eq_getElem hlt) (by omega) F 0 (by omega) (by omega) (by simp) (by simp; omega)
      rw [List.drop_zero, show ((0 : Nat) : Int) = 0 from rfl, Nat.add_zero, if_neg (show ¬ 0 < 0 by omega)] at hin
      rw [hin]
      unfold gE gtot
      by_cases hr : rowE g.length (-1) g[i] = 0
      · have hlen := qhO (by omega) (by omega) hr
        have e : (if rowE (g.length : Int) (-1) g[i] ≠ 0 then rowE (g.length : Int) (-1) g[i] else gE (g.length : Int) (g.drop (i + 1))) = gE (g.length : Int) (g.drop (i + 1)) := if_neg (by simp [hr])
        rw [if_neg (show ¬ rowE (g.length : Int) (-1) g[i] ≠ 0 by simp [hr]), e]
        unfold zV
        rw [qn (by omega), qip hF hg k (i + 1) (m + g[i].length) (by omega) (by omega) (by omega), Nat.add_assoc]
      · have e : (if rowE (g.length : Int) (-1) g[i] ≠ 0 then rowE (g.length : Int) (-1) g[i] else gE (g.length : Int) (g.drop (i + 1))) = rowE (g.length : Int) (-1) g[i] := if_pos hr
        rw [if_pos (by simpa using hr), e, if_pos hr]
    · rw [if_neg (by simp; omega), List.drop_eq_nil_of_le (by omega)]
      unfold qbS
      rw [if_neg (show ¬ gE (g.length : Int) [] ≠ 0 by simp [gE])]
      by_cases h6 : 600 < m
      · rw [if_pos (by simp; omega), if_pos (by simpa [gtot] using h6)]
      · rw [if_neg (by simp; omega), if_neg (by simpa [gtot] using h6)]
theorem qiq {F : Nat} (hF : 1000 ≤ F) {g : List (List Int)} : qb5 F g = some (gchk g) := by
  unfold qb5 gchk
  by_cases h : 100 < g.length
  · rw [if_pos (by simp; omega), if_pos h]
  · have := qip hF (g := g) (by omega) F 0 0 (by omega) (by omega) (by omega)
    rw [List.drop_zero, Nat.zero_add, show ((0 : Nat) : Int) = 0 from rfl] at this
    rw [if_neg (by simp; omega), if_neg h, this]
    split
    · rfl
    · split <;> rfl
def pkH (B : Int) (r : Nat) : List Int := if 0 < B then ga r else []
def pkF (g : List (List Int)) (i r : Nat) : List Int := if 0 < r then g.getD (i - r) [] else []
def pkW (g : List (List Int)) (B least : Int) (k i r : Nat) : List Int := pkH B r ++ enc (i : Int) (g.getD i []) (pkF g i r) (r : Int) least k
def bwy (f : Nat → List Int) : Nat → Nat × List Int
  | 0 => (0, f 0)
  | n + 1 => if (f (n + 1)).length < (bwy f n).2.length then (n + 1, f (n + 1)) else bwy f n
theorem qpC (f : Nat → List Int) : ∀ n : Nat, (bwy f n).1 ≤ n ∧ (bwy f n).2 = f (bwy f n).1
  | 0 => ⟨Nat.le_refl _, rfl⟩
  | n + 1 => by
    have := qpC f n
    unfold bwy
    split
    · exact ⟨Nat.le_refl _, rfl⟩
    · exact ⟨by omega, this.2⟩
theorem qnR (f : Nat → List Int) : ∀ {n r : Nat}, r ≤ n → (bwy f n).2.length ≤ (f r).length
  | 0, r, h => by
    have : r = 0 := by omega
    subst this; exact Nat.le_refl _
  | n + 1, r, h => by
    unfold bwy
    by_cases hr : r = n + 1
    · subst hr
      split
      · exact Nat.le_refl _
      · omega
    · have := qnR f (n := n) (r := r) (by omega)
      split
      · simp only; omega
      · exact this
theorem qjr {f f' : Nat → List Int} : ∀ {n : Nat}, (∀ r, r ≤ n → f r = f' r) → bwy f n = bwy f' n
  | 0, h => by unfold bwy; rw [h 0 (Nat.le_refl _)]
  | n + 1, h => by
    unfold bwy
    rw [h (n + 1) (Nat.le_refl _), qjr (n := n) fun r hr => h r (by omega)]
def pkN (g : List (List Int)) (B least : Int) (k i : Nat) : Nat × List Int := bwy (pkW g B least k i) (min B.toNat i)
def pkA (g : List (List Int)) (B least : Int) (k : Nat) : Nat → List Int × List Int × List Int
  | 0 => ([], [], [])
  | n + 1 => ((pkA g B least k n).1 ++ (pkN g B least k n).2, (pkA g B least k n).2.1 ++ [((pkN g B least k n).1 : Int)], (pkA g B least k n).2.2 ++ [((pkA g B least k n).1.length : Int)])
def pkE (g : List (List Int)) (B least k : Int) : Int := if gchk g ≠ 0 then gchk g else if hcE B least k ≠ 0 then hcE B least k else if 8192 < (pkA g B least k.toNat g.length).1.length then 8 else 0
theorem qfw {g : List (List Int)} {B least k : Int} (h : pkE g B least k = 0) : gchk g = 0 ∧ hcE B least k = 0 ∧ (pkA g B least k.toNat g.length).1.length ≤ 8192 := by
  unfold pkE at h
  by_cases h1 : gchk g = 0
  · rw [if_neg (by simp [h1])] at h
    by_cases h2 : hcE B least k = 0
    · rw [if_neg (by simp [h2])] at h
      by_cases h3 : 8192 < (pkA g B least k.toNat g.length).1.length
      · rw [if_pos h3] at h; simp at h
      · exact ⟨h1, h2, by omega⟩
    · rw [if_pos h2] at h; exact absurd h h2
  · rw [if_pos h1] at h; exact absurd h h1
theorem qqd {g : List (List Int)} {B least k : Int} (h1 : gchk g = 0) (h2 : hcE B least k = 0) (h3 : (pkA g B least k.toNat g.length).1.length ≤ 8192) : pkE g B least k = 0 := by
  unfold pkE
  rw [if_neg (by simp [h1]), if_neg (by simp [h2]), if_neg (by omega)]
theorem qk1 {g : List (List Int)} {B least : Int} {k : Nat} : ∀ {n i : Nat}, i ≤ n → ∃ R, (pkA g B least k n).1 = (pkA g B least k i).1 ++ R
  | 0, i, h => by
    have : i = 0 := by omega
    subst this; exact ⟨[], by simp⟩
  | n + 1, i, h => by
    by_cases hi : i = n + 1
    · subst hi; exact ⟨[], by simp⟩
    · obtain ⟨R, hR⟩ := qk1 (g := g) (B := B) (least := least) (k := k) (n := n) (i := i) (by omega)
      exact ⟨R ++ (pkN g B least k n).2, by rw [pkA, hR]; simp⟩
theorem qgO {g : List (List Int)} {B least : Int} {k : Nat} : ∀ n : Nat, (pkA g B least k n).2.1.length = n ∧ (pkA g B least k n).2.2.length = n
  | 0 => ⟨rfl, rfl⟩
  | n + 1 => by
    have := qgO (g := g) (B := B) (least := least) (k := k) n
    simp only [pkA, List.length_append, List.length_singleton]
    omega
theorem qmf {g : List (List Int)} {B least : Int} {k n i : Nat} (h : i ≤ n) : (pkA g B least k i).1.length ≤ (pkA g B least k n).1.length := by
  obtain ⟨R, hR⟩ := qk1 (g := g) (B := B) (least := least) (k := k) h
  rw [hR, List.length_append]; omega
theorem qhf {g : List (List Int)} {B least : Int} {k i : Nat} : (pkN g B least k i).1 ≤ min B.toNat i ∧ (pkN g B least k i).2 = pkW g B least k i (pkN g B least k i).1 := qpC _ _
theorem qqc {g : List (List Int)} {B least : Int} {k n i : Nat} (h : i < n) : ∃ R, (pkA g B least k n).1 = (pkA g B least k i).1 ++ ((pkH B (pkN g B least k i).1 ++ enc (i : Int) (g.getD i []) (pkF g i (pkN g B least k i).1) ((pkN g B least k i).1 : Int) least k) ++ R) := by
  obtain ⟨R, hR⟩ := qk1 (g := g) (B := B) (least := least) (k := k) (n := n) (i := i + 1) h
  refine ⟨R, ?_⟩
  rw [hR, pkA]
  have := (qhf (g := g) (B := B) (least := least) (k := k) (i := i)).2
  unfold pkW at this
  rw [this]
  simp only [List.append_assoc]
theorem qsX {g : List (List Int)} (h : Gr g) {l : List Int} (hl : l ∈ g) : gkc l = 0 := by
  have h1 := h.2.1 l hl
  have h2 := qpX h hl
  have h3 := h.1
  refine zA.2 ⟨by omega, qk7 h1.1 (fun z hz => ?_) fun z hz => ?_⟩
  · have := h1.2 z hz; omega
  · have := h1.2 z hz; unfold Nd; omega
theorem qhb {g : List (List Int)} (h : Gr g) (i : Nat) : gkc (g.getD i []) = 0 := by
  by_cases hi : i < g.length
  · rw [List.getD_eq_getElem?_getD, List.getElem?_eq_getElem hi]
    exact qsX h (List.getElem_mem hi)
  · rw [List.getD_eq_getElem?_getD, List.getElem?_eq_none (by omega)]
    decide
theorem qhL {g : List (List Int)} (h : Gr g) (i r : Nat) : gkc (pkF g i r) = 0 := by
  unfold pkF
  split
  · exact qhb h _
  · decide
def pkO (l : List Int) (B : Int) (node p : Nat) : Option (Int × Nat) := if B = 0 then some (0, p) else rgam l p (min B (node : Int))
def pkR (l : List Int) (B least : Int) (k : Nat) : Nat → List (List Int) → Nat → Option (List (List Int) × Nat)
  | 0, out, p => some (out, p)
  | m + 1, out, p => (pkO l B out.length p).bind fun o => (rdl l o.2 (out.length : Int) (pkF out out.length o.1.toNat) o.1 least k).bind fun r => pkR l B least k m (out ++ [r.1]) r.2
theorem qnC {g : List (List Int)} {i : Nat} (h : i < g.length) : g.take i ++ [g.getD i []] = g.take (i + 1) := by
  rw [List.take_add_one, List.getD_eq_getElem?_getD, List.getElem?_eq_getElem h]
  rfl
theorem qqe {g : List (List Int)} {i r : Nat} (h : r ≤ i) (_hi : i ≤ g.length) : pkF (g.take i) i r = pkF g i r := by
  unfold pkF
  split
  · rw [List.getD_eq_getElem?_getD, List.getD_eq_getElem?_getD, List.getElem?_take, if_pos (by omega)]
  · rfl
theorem qhM {g : List (List Int)} (hg : Gr g) {B least : Int} {k : Nat} (hh : hcE B least (k : Int) = 0) (hl : (pkA g B least k g.length).1.length ≤ 8192) (T : List Int) : ∀ (m i : Nat), i + m = g.length →
    pkR ((pkA g B least k g.length).1 ++ T) B least k m (g.take i) (pkA g B least k i).1.length = some (g, (pkA g B least k g.length).1.length)
  | 0, i, h => by
    have : i = g.length := by omega
    subst this
    simp [pkR]
  | m + 1, i, h => by
    have hi : i < g.length := by omega
    obtain ⟨k1, k2, k', hk, k3, k4⟩ := qbZ hh
    have hkk : k = k' := by omega
    subst hkk
    obtain ⟨hr, _⟩ := qhf (g := g) (B := B) (least := least) (k := k) (i := i)
    have hgl := hg.1
    have hti : (g.take i).length = i := by rw [List.length_take]; omega
    obtain ⟨R, hR⟩ := qqc (g := g) (B := B) (least := least) (k := k) hi
    have hnext := qhM hg hh hl T m (i + 1) (by omega)
    have hA : (pkA g B least k (i + 1)).1.length = (pkA g B least k i).1.length + (pkH B (pkN g B least k i).1).length + (enc (i : Int) (g.getD i []) (pkF g i (pkN g B least k i).1) ((pkN g B least k i).1 : Int) least k).length := by
      have := (qhf (g := g) (B := B) (least := least) (k := k) (i := i)).2
      rw [pkA, this]
      unfold pkW
      simp only [List.length_append]; omega
    have hO : pkO ((pkA g B least k g.length).1 ++ T) B i (pkA g B least k i).1.length = some (((pkN g B least k i).1 : Int), (pkA g B least k i).1.length + (pkH B (pkN g B least k i).1).length) := by
      unfold pkO pkH
      by_cases hB : B = 0
      · have : (pkN g B least k i).1 = 0 := by rw [hB] at hr ⊢; simp at hr; exact hr
        rw [if_pos hB, this, if_neg (by omega)]
        simp
      · rw [if_neg hB, if_pos (by omega)]
        rw [hR]
        unfold pkH
        rw [if_pos (by omega)]
        simp only [List.append_assoc]
        exact qei (by omega) (by omega) _ _
    unfold pkR
    rw [hti, hO]
    simp only [Option.bind_some, Int.toNat_natCast]
    rw [qqe (by omega) (by omega)]
    have hE : (enc (i : Int) (g.getD i []) (pkF g i (pkN g B least k i).1) ((pkN g B least k i).1 : Int) least k).length ≤ 8192 := by
      have := qmf (g := g) (B := B) (least := least) (k := k) (show i + 1 ≤ g.length from hi)
      omega
    have hD := qr4 (k := k) k3 k4 (node := (i : Int)) (back := ((pkN g B least k i).1 : Int)) (least := least) (x := g.getD i []) (fr := pkF g i (pkN g B least k i).1) (by unfold Nd; omega) k2 (qhb hg i) (fun _ => qhL hg _ _) ((pkA g B least k i).1 ++ pkH B (pkN g B least k i).1) (R ++ T) hE
    rw [hR]
    simp only [List.append_assoc, List.length_append] at hD ⊢
    rw [hD]
    simp only [Option.bind_some]
    rw [qnC hi]
    rw [hR] at hnext
    simp only [List.append_assoc, List.length_append] at hnext
    rw [← hnext, hA]
theorem qpZ {B least k : Int} {r : Nat} (h : hcE B least k = 0) (hr : (r : Int) ≤ B) : hcE (r : Int) least k = 0 := by
  unfold hcE at h ⊢
  by_cases hb : hcB B least k
  · rw [if_pos hb] at h; simp at h
  · rw [if_neg (by unfold hcB at hb ⊢; omega)]
theorem qoH {F : Nat} (hF : 2000000 ≤ F) {A : List (List Int)} {x fr H : List Int} {r i k : Nat} {least : Int} (hA : A.length = i) (hi : i ≤ 100) (hx : gkc x = 0) (hfr : gkc fr = 0) (hh : hcE (r : Int) least (k : Int) = 0) (hH : Bit H) (hHl : H.length ≤ 100) :
    qaK F A x (r : Int) least (k : Int) (H.length : Int) (pk H) fr = some (if (H ++ enc (i : Int) x fr (r : Int) least k).length ≤ 8192 then ((r : Int), ((H ++ enc (i : Int) x fr (r : Int) least k).length : Int), pk (H ++ enc (i : Int) x fr (r : Int) least k), true) else (0, 0, [], false)) := by
  unfold qaK
  rw [qph hF, hA]
  simp only [Option.bind_some]
  have hE : swE (i : Int) x fr (r : Int) least (k : Int) = 0 := qtf hh (by unfold Nd; omega) hx (fun _ => hfr)
  rw [List.length_append]
  by_cases h1 : (enc (i : Int) x fr (r : Int) least k).length ≤ 8192
  · have hs := qtB hE (by rw [Int.toNat_natCast]; exact h1)
    rw [Int.toNat_natCast] at hs
    rw [hs]
    simp only
    rw [qr (by omega) (by omega)]
    by_cases h2 : H.length + (enc (i : Int) x fr (r : Int) least k).length ≤ 8192
    · rw [if_neg (by simp; omega), if_pos h2, qkE (by omega) (qeJ hH) (qeJ qkK) (qgN (by omega)) (qgN h1), qbg hH, qbg qkK]
      rfl
    · rw [if_pos (by simp; omega), if_neg h2]
  · have hs : sw (i : Int) x fr (r : Int) least (k : Int) = (0, [], 8) := by
      unfold sw
      rw [if_neg (by simp [hE]), Int.toNat_natCast, if_pos (by omega)]
    rw [hs, if_pos (by simp), if_neg (by omega)]
theorem qsF {F : Nat} (hF : 2000000 ≤ F) {g : List (List Int)} (hg : Gr g) {B least : Int} {k i r : Nat} (hh : hcE B least (k : Int) = 0) (hi : i ≤ g.length) (hr : r ≤ min B.toNat i) :
    qea F (g.take i) (g.getD i []) (r : Int) B least (k : Int) = some (if (pkW g B least k i r).length ≤ 8192 then ((r : Int), ((pkW g B least k i r).length : Int), pk (pkW g B least k i r), true) else (0, 0, [], false)) := by
  have hgl := hg.1
  have hti : (g.take i).length = i := by rw [List.length_take]; omega
  obtain ⟨k1, -, -⟩ := qbZ hh
  have hh' : hcE (r : Int) least (k : Int) = 0 := qpZ hh (by omega)
  have hj : ∀ H : List Int, Bit H → H.length ≤ 100 → qaJ F (g.take i) (g.getD i []) (r : Int) least (k : Int) (H.length : Int) (pk H) = some (if (H ++ enc (i : Int) (g.getD i []) (pkF g i r) (r : Int) least k).length ≤ 8192 then ((r : Int), ((H ++ enc (i : Int) (g.getD i []) (pkF g i r) (r : Int) least k).length : Int), pk (H ++ enc (i : Int) (g.getD i []) (pkF g i r) (r : Int) least k), true) else (0, 0, [], false)) := by
    intro H hH hHl
    unfold qaJ
    by_cases h0 : 0 < r
    · rw [if_pos (by simpa using h0), hti, qx (by omega) (by omega), show ((i : Int) - (r : Int)) = ((i - r : Nat) : Int) from by omega, qs, List.getElem?_take, if_pos (by omega), List.getElem?_eq_getElem (show i - r < g.length by omega)]
      simp only [Option.bind_some]
      have e : g[i - r]'(by omega) = pkF g i r := by
        unfold pkF
        rw [if_pos h0, List.getD_eq_getElem?_getD, List.getElem?_eq_getElem (show i - r < g.length by omega)]
        rfl
      rw [e]
      exact qoH hF hti (by omega) (qhb hg i) (qhL hg i r) hh' hH hHl
    · rw [if_neg (by simpa using h0)]
      have e : pkF g i r = [] := by unfold pkF; rw [if_neg h0]
      rw [e]
      exact qoH hF hti (by omega) (qhb hg i) (by decide) hh' hH hHl
  unfold qea pkW pkH
  by_cases hB : 0 < B
  · have hga := qct (n := r) (by omega)
    rw [if_pos (by simpa using hB), if_pos hB, zP (by omega), qhv (by omega) (by omega)]
    simp only [Option.bind_some]
    exact hj (ga r) (qe0 r) (by omega)
  · rw [if_neg (by simpa using hB), if_neg hB]
    exact hj [] (by intro z hz; simp at hz) (by simp)
def bst (f : Nat → List Int) (j : Nat) : Bool × Int × Int × List Int := if j = 0 then (false, 0, 0, []) else if (bwy f (j - 1)).2.length ≤ 8192 then (true, ((bwy f (j - 1)).1 : Int), ((bwy f (j - 1)).2.length : Int), pk (bwy f (j - 1)).2) else (false, 0, 0, [])
theorem qpz {F : Nat} (hF : 2000000 ≤ F) {g : List (List Int)} (hg : Gr g) {B least : Int} {k i : Nat} (hh : hcE B least (k : Int) = 0) (hi : i ≤ g.length) : ∀ (n j : Nat), min B.toNat i + 1 < n + j → j ≤ min B.toNat i + 1 →
    zR F (g.take i) (g.getD i []) B least (k : Int) n ((bst (pkW g B least k i) j).1, (j : Int), (bst (pkW g B least k i) j).2.1, (bst (pkW g B least k i) j).2.2.1, (bst (pkW g B least k i) j).2.2.2) = some (if (pkN g B least k i).2.length ≤ 8192 then (((pkN g B least k i).1 : Int), ((pkN g B least k i).2.length : Int), pk (pkN g B least k i).2, true) else (0, 0, [], false))
  | 0, _, _, _ => by omega
  | n + 1, j, h, hj => by
    have hgl := hg.1
    have hti : (g.take i).length = i := by rw [List.length_take]; omega
    obtain ⟨k1, -, -⟩ := qbZ hh
    show qbK F (g.take i) (g.getD i []) B least (k : Int) (zR F (g.take i) (g.getD i []) B least (k : Int) n) (bst (pkW g B least k i) j).1 (j : Int) (bst (pkW g B least k i) j).2.1 (bst (pkW g B least k i) j).2.2.1 (bst (pkW g B least k i) j).2.2.2 = _
    unfold qbK
    have hmin : imin B ((g.take i).length : Int) = ((min B.toNat i : Nat) : Int) := by
      rw [hti]; unfold imin; split <;> omega
    rw [hmin, qr (by omega) (by omega)]
    by_cases hlt : j < min B.toNat i + 1
    · rw [if_pos (by simp; omega), qsF hF hg hh hi (by omega)]
      simp only [Option.bind_some]
      have hrec := qpz hF hg hh hi n (j + 1) (by omega) (by omega)
      have hnew : (pkW g B least k i j).length ≤ 8192 → bwy (pkW g B least k i) j = (j, pkW g B least k i j) → yn F (zR F (g.take i) (g.getD i []) B least (k : Int) n) (j : Int) true (j : Int) ((pkW g B least k i j).length : Int) (pk (pkW g B least k i j)) = some (if (pkN g B least k i).2.length ≤ 8192 then (((pkN g B least k i).1 : Int), ((pkN g B least k i).2.length : Int), pk (pkN g B least k i).2, true) else (0, 0, [], false)) := by
        intro h1 h2
        unfold yn
        rw [qn (by omega), ← hrec]
        unfold bst
        rw [if_neg (by omega), Nat.add_sub_cancel, h2, if_pos h1]
      have hold : bst (pkW g B least k i) (j + 1) = bst (pkW g B least k i) j → yn F (zR F (g.take i) (g.getD i []) B least (k : Int) n) (j : Int) (bst (pkW g B least k i) j).1 (bst (pkW g B least k i) j).2.1 (bst (pkW g B least k i) j).2.2.1 (bst (pkW g B least k i) j).2.2.2 = some (if (pkN g B least k i).2.length ≤ 8192 then (((pkN g B least k i).1 : Int), ((pkN g B least k i).2.length : Int), pk (pkN g B least k i).2, true) else (0, 0, [], false)) := by
        intro h1
        unfold yn
        rw [qn (by omega), ← hrec, h1]
      unfold qbL
      by_cases hl : (pkW g B least k i j).length ≤ 8192
      · rw [if_pos hl]
        simp only [if_true]
        by_cases h0 : j = 0
        · subst h0
          rw [if_pos (by simp [bst])]
          exact hnew hl rfl
        · obtain ⟨q, rfl⟩ : ∃ q, j = q + 1 := ⟨j - 1, by omega⟩
          by_cases hb : (bwy (pkW g B least k i) q).2.length ≤ 8192
          · have e : bst (pkW g B least k i) (q + 1) = (true, ((bwy (pkW g B least k i) q).1 : Int), ((bwy (pkW g B least k i) q).2.length : Int), pk (bwy (pkW g B least k i) q).2) := by
              unfold bst
              rw [if_neg (by omega), Nat.add_sub_cancel, if_pos hb]
            by_cases hc : (pkW g B least k i (q + 1)).length < (bwy (pkW g B least k i) q).2.length
            · rw [if_pos (by rw [e]; simp; omega)]
              exact hnew hl (by rw [bwy, if_pos hc])
            · rw [if_neg (by rw [e]; simp; omega)]
              refine hold ?_
              rw [e]
              unfold bst
              rw [if_neg (by omega), Nat.add_sub_cancel, bwy, if_neg hc, if_pos hb]
          · have e : bst (pkW g B least k i) (q + 1) = (false, 0, 0, []) := by
              unfold bst
              rw [if_neg (by omega), Nat.add_sub_cancel, if_neg hb]
            rw [if_pos (by rw [e]; simp)]
            exact hnew hl (by rw [bwy, if_pos (by omega)])
      · rw [if_neg hl]
        simp only [Bool.false_eq_true, if_false]
        refine hold ?_
        unfold bst
        rw [if_neg (by omega), Nat.add_sub_cancel]
        by_cases h0 : j = 0
        · subst h0
          rw [if_pos rfl, bwy, if_neg hl]
        · obtain ⟨q, rfl⟩ : ∃ q, j = q + 1 := ⟨j - 1, by omega⟩
          rw [if_neg (show ¬ q + 1 = 0 by omega), Nat.add_sub_cancel, bwy]
          by_cases hc : (pkW g B least k i (q + 1)).length < (bwy (pkW g B least k i) q).2.length
          · rw [if_pos hc, if_neg hl, if_neg (by omega)]
          · rw [if_neg hc]
    · rw [if_neg (by simp; omega)]
      have : j = min B.toNat i + 1 := by omega
      subst this
      unfold qdO bst pkN
      rw [if_neg (by omega), Nat.add_sub_cancel]
      split <;> rfl
theorem qrs {F : Nat} (hF : 2000000 ≤ F) {g : List (List Int)} (hg : Gr g) {B least : Int} {k i : Nat} (hh : hcE B least (k : Int) = 0) (hi : i ≤ g.length) :
    qd9 F (g.take i) (g.getD i []) B least (k : Int) = some (if (pkN g B least k i).2.length ≤ 8192 then (((pkN g B least k i).1 : Int), ((pkN g B least k i).2.length : Int), pk (pkN g B least k i).2, true) else (0, 0, [], false)) := by
  have hgl := hg.1
  have := qpz hF hg hh hi F 0 (by omega) (Nat.zero_le _)
  exact this
theorem qrX {g : List (List Int)} {B least : Int} {k i r : Nat} : Bit (pkW g B least k i r) := by
  unfold pkW pkH
  refine yX ?_ qkK
  split
  · exact qe0 r
  · intro z hz; simp at hz
theorem qk2 {g : List (List Int)} {B least : Int} {k i : Nat} : Bit (pkN g B least k i).2 := by
  rw [qhf.2]; exact qrX
theorem qeg {g : List (List Int)} {B least : Int} {k : Nat} : ∀ n : Nat, Bit (pkA g B least k n).1
  | 0 => by intro z hz; simp [pkA] at hz
  | n + 1 => by unfold pkA; exact yX (qeg n) qk2
theorem qfp {g : List (List Int)} {i : Nat} (h : i < g.length) : idx g (i : Int) = some (g.getD i []) := by
  rw [qs, List.getD_eq_getElem?_getD, List.getElem?_eq_getElem h]
  rfl
theorem qom {F : Nat} (hF : 2000000 ≤ F) {g : List (List Int)} (hg : Gr g) {N B least : Int} {k : Nat} (hh : hcE B least (k : Int) = 0) : ∀ (j i : Nat), g.length < j + i → i ≤ g.length → (pkA g B least k i).1.length ≤ 8192 →
    ∃ z, qG F N B least (k : Int) g j ((i : Int), ((pkA g B least k i).1.length : Int), pk (pkA g B least k i).1, (pkA g B least k i).2.1, (pkA g B least k i).2.2) = some z ∧ z.1 = decide ((pkA g B least k g.length).1.length ≤ 8192) ∧
      (z.1 = true → z = (true, N, B, least, (k : Int), ((pkA g B least k g.length).1.length : Int), pk (pkA g B least k g.length).1, (pkA g B least k g.length).2.1, (pkA g B least k g.length).2.2))
  | 0, _, _, _, _ => by omega
  | j + 1, i, h, hi, hA => by
    have hgl := hg.1
    show ∃ z, yv F N B least (k : Int) g (qG F N B least (k : Int) g j) (i : Int) ((pkA g B least k i).1.length : Int) (pk (pkA g B least k i).1) (pkA g B least k i).2.1 (pkA g B least k i).2.2 = some z ∧ _
    unfold yv
    by_cases hlt : i < g.length
    · have e0 : sub g 0 (i : Int) = some (g.take i) := by
        have := qgZ (l := g) (i := 0) (j := i) (by omega) hi
        simpa using this
      have hstep : (pkA g B least k (i + 1)).1.length = (pkA g B least k i).1.length + (pkN g B least k i).2.length := by rw [pkA, List.length_append]
      have hmono := qmf (g := g) (B := B) (least := least) (k := k) (show i + 1 ≤ g.length from hlt)
      rw [if_pos (by simp; omega), qfp hlt, e0]
      simp only [Option.bind_some]
      rw [qrs hF hg hh hi]
      simp only [Option.bind_some]
      unfold yw
      by_cases h1 : (pkN g B least k i).2.length ≤ 8192
      · rw [if_pos h1]
        simp only [Bool.not_true, Bool.false_eq_true, if_false]
        rw [qr (by omega) (by omega)]
        unfold kv
        by_cases h2 : (pkA g B least k i).1.length + (pkN g B least k i).2.length ≤ 8192
        · rw [if_neg (by simp; omega)]
          have hl := qgO (g := g) (B := B) (least := least) (k := k) i
          rw [qQ (by rw [hl.1]; simp; omega)]
          simp only [Option.bind_some]
          rw [qQ (by rw [hl.2]; simp; omega)]
          simp only [Option.bind_some]
          unfold kw
          rw [qkE (by omega) (qeJ (qeg i)) (qeJ qk2) (qgN hA) (qgN h1), qbg (qeg i), qbg qk2]
          simp only [Option.bind_some]
          have := qom hF hg (N := N) hh j (i + 1) (by omega) (by omega) (by omega)
          rw [qn (by omega), ← hstep]
          exact this
        · rw [if_pos (by simp; omega)]
          exact ⟨_, rfl, by simp only; rw [decide_eq_false (by omega)], fun h => by simp at h⟩
      · rw [if_neg h1]
        simp only [Bool.not_false, if_true]
        unfold kv
        rw [if_pos rfl]
        exact ⟨_, rfl, by simp only; rw [decide_eq_false (by omega)], fun h => by simp at h⟩
    · rw [if_neg (by simp; omega)]
      have : i = g.length := by omega
      subst this
      unfold jG
      exact ⟨_, rfl, by simp only; rw [decide_eq_true hA], fun _ => rfl⟩
theorem qjI {F : Nat} (hF : 2000000 ≤ F) {g : List (List Int)} {B least k : Int} :
    ∃ z1 z2 z3 z4 z5 z6 z7 z8, qbp F g B least k = some (z1, z2, z3, z4, z5, z6, z7, z8, pkE g B least k) ∧
      (pkE g B least k = 0 → (z1, z2, z3, z4, z5, z6, z7, z8) = ((g.length : Int), B, least, k, ((pkA g B least k.toNat g.length).1.length : Int), pk (pkA g B least k.toNat g.length).1, (pkA g B least k.toNat g.length).2.1, (pkA g B least k.toNat g.length).2.2)) := by
  unfold qbp
  rw [qji (by omega)]
  simp only [Option.bind_some]
  by_cases h1 : gchk g = 0
  · rw [if_pos (by simpa using h1), qhc]
    simp only [Option.bind_some]
    unfold jl
    by_cases h2 : hcE B least k = 0
    · rw [if_pos (by simpa using h2)]
      obtain ⟨_, _, k', rfl, _, _⟩ := qbZ h2
      have hg := qef.1 h1
      have hgl := hg.1
      obtain ⟨z, hz, hz1, hz2⟩ := qom hF hg (N := (g.length : Int)) h2 F 0 (by omega) (Nat.zero_le _) (by simp [pkA])
      have hz' : qbV F (g.length : Int) B least (k' : Int) 0 [] [] [] g = some z := by
        have e : pk ([] : List Int) = [] := by simp [pk]
        simp only [pkA, List.length_nil, e] at hz
        exact hz
      rw [hz']
      simp only [Option.bind_some]
      unfold yL yK
      rw [Int.toNat_natCast]
      by_cases h3 : (pkA g B least k' g.length).1.length ≤ 8192
      · rw [decide_eq_true h3] at hz1
        have := hz2 hz1
        have hE : pkE g B least (k' : Int) = 0 := qqd h1 h2 (by rw [Int.toNat_natCast]; exact h3)
        rw [hE, h2]
        subst this
        exact ⟨_, _, _, _, _, _, _, _, rfl, fun _ => rfl⟩
      · rw [decide_eq_false h3] at hz1
        have hE : pkE g B least (k' : Int) = 8 := by
          unfold pkE
          rw [if_neg (by simp [h1]), if_neg (by simp [h2]), if_pos (by rw [Int.toNat_natCast]; omega)]
        rw [hE, hz1]
        exact ⟨_, _, _, _, _, _, _, _, rfl, fun h => by simp at h⟩
    · have hE : pkE g B least k = hcE B least k := by
        unfold pkE
        rw [if_neg (by simp [h1]), if_pos h2]
      rw [if_neg (by simpa using h2), hE]
      unfold yL yK
      exact ⟨_, _, _, _, _, _, _, _, rfl, fun h => absurd h h2⟩
  · have hE : pkE g B least k = gchk g := by
      unfold pkE
      rw [if_pos h1]
    rw [if_neg (by simpa using h1), hE]
    unfold jl yL yK
    rw [if_neg (by simpa using h1)]
    exact ⟨_, _, _, _, _, _, _, _, rfl, fun h => absurd h h1⟩
def pwr (g : List (List Int)) (B least k : Int) : Int × Int × Int × Int × Int × List Int × Int :=
  if pkE g B least k ≠ 0 then (0, 0, 0, 0, 0, [], pkE g B least k) else ((g.length : Int), B, least, k, ((pkA g B least k.toNat g.length).1.length : Int), pk (pkA g B least k.toNat g.length).1, 0)
def ptl (g : List (List Int)) (B least k : Int) : List Int × List Int × Int :=
  if pkE g B least k ≠ 0 then ([], [], pkE g B least k) else ((pkA g B least k.toNat g.length).2.1, (pkA g B least k.toNat g.length).2.2, 0)
theorem qhh {F : Nat} (hF : 2000000 ≤ F) {g : List (List Int)} {B least k : Int} : vB F g B least k = some (pwr g B least k) := by
  obtain ⟨z1, z2, z3, z4, z5, z6, z7, z8, hz, hz2⟩ := qjI hF (g := g) (B := B) (least := least) (k := k)
  unfold vB pwr
  rw [hz]
  simp only [Option.bind_some]
  by_cases h : pkE g B least k = 0
  · rw [if_neg (by simp [h]), if_neg (by simp [h])]
    have := hz2 h
    simp only [Prod.mk.injEq] at this
    obtain ⟨rfl, rfl, rfl, rfl, rfl, rfl, -, -⟩ := this
    rfl
  · rw [if_pos (by simpa using h), if_pos h]
theorem qmj {F : Nat} (hF : 2000000 ≤ F) {g : List (List Int)} {B least k : Int} : qdc F g B least k = some (ptl g B least k) := by
  obtain ⟨z1, z2, z3, z4, z5, z6, z7, z8, hz, hz2⟩ := qjI hF (g := g) (B := B) (least := least) (k := k)
  unfold qdc ptl
  rw [hz]
  simp only [Option.bind_some]
  by_cases h : pkE g B least k = 0
  · rw [if_neg (by simp [h]), if_neg (by simp [h])]
    have := hz2 h
    simp only [Prod.mk.injEq] at this
    obtain ⟨-, -, -, -, -, -, rfl, rfl⟩ := this
    rfl
  · rw [if_pos (by simpa using h), if_pos h]
theorem qqb {F : Nat} {xs ys : List Int} (he : xs.length = ys.length) (hm : xs.length ≤ 1000000) : ∀ (k i : Nat), xs.length < k + i → i ≤ xs.length → zb F xs ys k (i : Int) = some (decide (xs.drop i = ys.drop i))
  | 0, _, _, _ => by omega
  | k + 1, i, h, hi => by
    show kn F xs ys (zb F xs ys k) (i : Int) = _
    unfold kn
    by_cases hlt : i < xs.length
    · have hlt' : i < ys.length := by omega
      rw [if_pos (by simp; omega), qs, List.getElem?_eq_getElem hlt, qs, List.getElem?_eq_getElem hlt']
      simp only [Option.bind_some]
      rw [List.drop_eq_getElem_cons hlt, List.drop_eq_getElem_cons hlt']
      by_cases hc : xs[i] = ys[i]
      · rw [if_neg (by simp [hc]), qn (by omega), qqb he hm k (i + 1) (by omega) (by omega)]
        congr 1
        rw [decide_eq_decide, List.cons.injEq]
        exact ⟨fun h => ⟨hc, h⟩, fun h => h.2⟩
      · rw [if_pos (by simpa using hc), decide_eq_false (fun e => hc (List.cons.inj e).1)]
    · rw [if_neg (by simp; omega), List.drop_eq_nil_of_le (by omega), List.drop_eq_nil_of_le (by omega)]
      rfl
theorem peqb {F : Nat} {xs ys : List Int} (hF : xs.length < F) (hm : xs.length ≤ 1000000) : kX F xs ys = some (decide (xs = ys)) := by
  unfold kX
  by_cases h : xs.length = ys.length
  · rw [if_neg (by simp [h])]
    have := qqb (F := F) h hm F 0 (by omega) (Nat.zero_le _)
    rw [List.drop_zero, List.drop_zero] at this
    exact this
  · rw [if_pos (by simp; omega), decide_eq_false (fun e => h (by rw [e]))]
theorem qjN {l : List Int} {p : Nat} {most : Int} (h : rgam l p most = none) : (fg l p).2.2 ≠ 0 ∨ most < (fg l p).1 := by
  unfold rgam at h
  by_cases h1 : (fg l p).2.2 = 0
  · right
    by_cases h2 : (fg l p).1 ≤ most
    · rw [if_pos ⟨h1, h2⟩] at h; simp at h
    · omega
  · left; exact h1
theorem qla {l : List Int} {p : Nat} {most : Int} {x : Int × Nat} (h : rgam l p most = some x) : fg l p = (x.1, (x.2 : Int), 0) ∧ x.1 ≤ most := by
  unfold rgam at h
  split at h
  · rename_i hc
    simp only [Option.some.injEq] at h
    rw [← h]
    have h3 : 0 ≤ (fg l p).2.1 := by
      rcases qjx (l := l) (a := p) with h1 | ⟨n, q, h1, h2, h3⟩
      · exact absurd hc.1 h1
      · rw [h1]; simp
    refine ⟨?_, hc.2⟩
    simp only
    rw [Int.toNat_of_nonneg h3, ← hc.1]
  · simp at h
theorem qqf {l : List Int} {B : Int} (_hB : 0 ≤ B) {node p : Nat} (hp : p ≤ l.length) {o : Int × Nat} (h : pkO l B node p = some o) : 0 ≤ o.1 ∧ o.1 ≤ min B (node : Int) ∧ o.2 ≤ l.length := by
  unfold pkO at h
  split at h
  · simp only [Option.some.injEq] at h
    subst h
    simp only
    omega
  · have := yY h
    omega
theorem qrZ {F : Nat} (hF : 20000 ≤ F) {l : List Int} (hl : Bit l) (hm : l.length ≤ 8192) {N B least k : Int} (hB : 0 ≤ B ∧ B ≤ 7) {node p : Nat} (hn : node ≤ 1000) (hp : p ≤ l.length) :
    qeW F N B least k (l.length : Int) (pk l) (p : Int) (node : Int) = some (match pkO l B node p with | none => (0, 0, false) | some o => (o.1, (o.2 : Int), true)) := by
  unfold qeW pkO
  by_cases h0 : B = 0
  · rw [if_pos (by simpa using h0), if_pos h0]
  · rw [if_neg (by simpa using h0), if_neg h0, qgG hF hl hm hp]
    simp only [Option.bind_some]
    have hmin : imin B (node : Int) = min B (node : Int) := by unfold imin; split <;> omega
    have hcv : iconv .u64 (min B (node : Int)) = min B (node : Int) := by
      obtain ⟨q, hq⟩ := Int.eq_ofNat_of_zero_le (a := min B (node : Int)) (by omega)
      rw [hq]; exact zP (by omega)
    unfold qc4
    rw [hmin, hcv]
    cases hr : rgam l p (min B (node : Int)) with
    | none =>
      rcases qjN hr with h1 | h1
      · rw [if_pos (by simpa using h1), if_pos rfl]
      · by_cases h2 : (fg l p).2.2 = 0
        · rw [if_neg (by simp [h2]), if_pos (by simpa using h1)]
        · rw [if_pos (by simpa using h2), if_pos rfl]
    | some x =>
      obtain ⟨h1, h2⟩ := qla hr
      have hok := yY hr
      rw [h1]
      simp only
      rw [if_neg (by simp), if_neg (by simp; omega)]
      have e : iconv .i64 x.1 = x.1 := q4 (by omega) (by omega)
      rw [e]
theorem qmh {F k : Nat} (hF : 2000000 ≤ F) {l : List Int} (hl : Bit l) (hm : l.length ≤ 8192) {B least : Int} (hh : hcE B least (k : Int) = 0) {n : Nat} (hn : n ≤ 100) : ∀ (j p : Nat) (out : List (List Int)), n < j + out.length → out.length ≤ n → p ≤ l.length → (∀ x ∈ out, gkc x = 0) →
    kJ F (n : Int) B least (k : Int) (l.length : Int) (pk l) j (out, (p : Int), (out.length : Int)) = some (match pkR l B least k (n - out.length) out p with | none => ([], false) | some r => (r.1, decide (r.2 = l.length)))
  | 0, _, _, _, _, _, _ => by omega
  | j + 1, p, out, h, ho, hp, hg => by
    obtain ⟨k1, k2, k', hk, k3, k4⟩ := qbZ hh
    have hkk : k = k' := by omega
    subst hkk
    show qbM F (n : Int) B least (k : Int) (l.length : Int) (pk l) (kJ F (n : Int) B least (k : Int) (l.length : Int) (pk l) j) out (p : Int) (out.length : Int) = _
    unfold qbM
    by_cases hlt : out.length < n
    · rw [if_pos (by simp; omega), qrZ (by omega) hl hm k1 (by omega) hp, show n - out.length = (n - (out.length + 1)) + 1 from by omega]
      simp only [Option.bind_some, pkR]
      cases hO : pkO l B out.length p with
      | none => rfl
      | some o =>
        obtain ⟨o1, o2, o3⟩ := qqf k1.1 hp hO
        simp only [Bool.not_true, Bool.false_eq_true, if_false, Option.bind_some]
        have hfr : gkc (pkF out out.length o.1.toNat) = 0 := by
          unfold pkF
          split
          · rw [List.getD_eq_getElem?_getD]
            by_cases hq : out.length - o.1.toNat < out.length
            · rw [List.getElem?_eq_getElem hq]; exact hg _ (List.getElem_mem hq)
            · rw [List.getElem?_eq_none (by omega)]; decide
          · decide
        have hstep : ∀ fr : List Int, fr = pkF out out.length o.1.toNat → ((qb4 F (l.length : Int) (pk l) (o.2 : Int) (out.length : Int) fr o.1 least (k : Int)).bind fun x488 => (if ((x488.2.2 : Int) != 0) then some (([] : List (List Int)), false) else ((app 2199023255552 out ([x488.1] : List (List Int))).bind fun x494 => jW F (kJ F (n : Int) B least (k : Int) (l.length : Int) (pk l) j) (out.length : Int) x494 x488.2.1))) = some (match (rdl l o.2 (out.length : Int) (pkF out out.length o.1.toNat) o.1 least k).bind fun r => pkR l B least k (n - (out.length + 1)) (out ++ [r.1]) r.2 with | none => ([], false) | some r => (r.1, decide (r.2 = l.length))) := by
          intro fr hfe
          subst hfe
          rw [qqN hF k3 k4 hl hm (by unfold Nd; omega) o3 (fun _ => hfr) k2]
          simp only [Option.bind_some]
          cases hr : rdl l o.2 (out.length : Int) (pkF out out.length o.1.toNat) o.1 least k with
          | none => rfl
          | some r =>
            obtain ⟨r1, r2, r3, r4, r5⟩ := qgQ hl k3 hr
            simp only [Option.bind_some]
            rw [if_neg (by simp), qQ (by simp; omega)]
            simp only [Option.bind_some]
            unfold jW
            have hl1 : (out ++ [r.1]).length = out.length + 1 := by simp
            have hrec := qmh hF hl hm hh hn j r.2 (out ++ [r.1]) (by omega) (by omega) r5 (fun x hx => by
              rcases List.mem_append.1 hx with hx | hx
              · exact hg x hx
              · simp at hx; subst hx; exact r1)
            rw [hl1] at hrec
            rw [qn (by omega), hrec]
        by_cases h0 : 0 < o.1
        · rw [if_pos (by simpa using h0), qx (by omega) (by omega), show ((out.length : Int) - o.1) = ((out.length - o.1.toNat : Nat) : Int) from by omega, qfp (by omega)]
          simp only [Option.bind_some]
          exact hstep _ (by unfold pkF; rw [if_pos (by omega)])
        · rw [if_neg (by simpa using h0)]
          exact hstep _ (by unfold pkF; rw [if_neg (by omega)])
    · rw [if_neg (by simp; omega), show n - out.length = 0 from by omega]
      unfold qdn
      simp only [pkR]
      congr 2
      by_cases hpl : p = l.length
      · subst hpl; simp
      · rw [decide_eq_false hpl]; simp; omega
def pcE (N B least k m : Int) (b : List Int) : Int := if N < 0 ∨ 100 < N then 3 else if hcE B least k ≠ 0 then hcE B least k else chkOf m b
def prd (N B least k m : Int) (b : List Int) : List (List Int) × Int :=
  if pcE N B least k m b ≠ 0 then ([], pcE N B least k m b) else
  match pkR (bl b m.toNat) B least k.toNat N.toNat [] 0 with
  | none => ([], 1)
  | some r => if r.2 = m.toNat ∧ pkE r.1 B least k = 0 ∧ pk (pkA r.1 B least k.toNat r.1.length).1 = b then (r.1, 0) else ([], 1)
theorem qnh {F : Nat} {N B least k m : Int} {b : List Int} (hb : U8s b) (hm : I64 m) (lb : b.length ≤ 9223372036854775807) : qdv F N B least k m b = some (pcE N B least k m b) := by
  unfold qdv pcE
  by_cases h1 : N < 0 ∨ 100 < N
  · rw [if_pos (by simpa using h1), if_pos h1]
  · rw [if_neg (by simpa using h1), if_neg h1, qhc]
    simp only [Option.bind_some]
    by_cases h2 : hcE B least k = 0
    · rw [if_neg (by simp [h2]), if_neg (by simp [h2]), qpF hb hm.1 hm.2 lb]
      rfl
    · rw [if_pos (by simpa using h2), if_pos h2]
theorem qng {N B least k m : Int} {b : List Int} (hb : U8s b) (h : pcE N B least k m b = 0) : ∃ (n : Nat) (l : List Int), N = (n : Int) ∧ n ≤ 100 ∧ hcE B least k = 0 ∧ Bit l ∧ l.length ≤ 8192 ∧ m = (l.length : Int) ∧ b = pk l := by
  unfold pcE at h
  by_cases h1 : N < 0 ∨ 100 < N
  · rw [if_pos h1] at h; simp at h
  · rw [if_neg h1] at h
    by_cases h2 : hcE B least k = 0
    · rw [if_neg (by simp [h2])] at h
      rcases qlV hb (n := m) with h3 | ⟨l, hl, hm, e1, e2⟩
      · exact absurd h h3
      · exact ⟨N.toNat, l, by omega, by omega, h2, hl, hm, e1, e2⟩
    · rw [if_pos h2] at h; exact absurd h h2
theorem qim {F : Nat} (hF : 2000000 ≤ F) {N B least k m : Int} {b : List Int} (hb : U8s b) (hm : I64 m) (lb : b.length ≤ 9223372036854775807) : qb3 F N B least k m b = some (prd N B least k m b) := by
  unfold qb3 prd
  rw [qnh hb hm lb]
  simp only [Option.bind_some]
  by_cases h : pcE N B least k m b = 0
  · rw [if_neg (by simp [h]), if_neg (by simp [h])]
    obtain ⟨n, l, rfl, hn, hh, hl, hlm, rfl, rfl⟩ := qng hb h
    obtain ⟨k1, k2, k', rfl, k3, k4⟩ := qbZ hh
    have hL := qmh (F := F) hF hl hlm hh hn F 0 [] (by simp; omega) (Nat.zero_le _) (Nat.zero_le _) (by simp)
    have hL' : qeX F (n : Int) B least (k' : Int) (l.length : Int) (pk l) = _ := hL
    rw [hL']
    simp only [Option.bind_some, List.length_nil, Nat.sub_zero, Int.toNat_natCast, qbg hl]
    cases hr : pkR l B least k' n [] 0 with
    | none => rfl
    | some r =>
      simp only
      by_cases hp : r.2 = l.length
      · rw [decide_eq_true hp, if_neg (by simp), qhh hF]
        simp only [Option.bind_some]
        unfold pwr qcl
        by_cases hE : pkE r.1 B least (k' : Int) = 0
        · rw [if_neg (by simp [hE])]
          simp only [Int.toNat_natCast]
          obtain ⟨_, _, hA⟩ := qfw hE
          rw [Int.toNat_natCast] at hA
          rw [if_neg (by simp [hE]), peqb (by rw [qe8]; omega) (by rw [qe8]; omega)]
          simp only [Option.bind_some]
          by_cases hq : pk (pkA r.1 B least k' r.1.length).1 = pk l
          · rw [decide_eq_true hq, if_neg (by simp), if_pos ⟨hp, hE, hq⟩]
          · rw [decide_eq_false hq, if_pos (by simp), if_neg (fun hc => hq hc.2.2)]
        · rw [if_pos hE, if_pos (by simpa using hE), if_pos rfl, if_neg (fun hc => hE hc.2.1)]
      · rw [decide_eq_false hp, if_pos (by simp), if_neg (fun hc => hp hc.1)]
  · rw [if_pos (by simpa using h), if_pos h]
theorem qqx {l : List Int} (hl : Bit l) {p : Nat} {most : Int} {x : Int × Nat} (h : rgam l p most = some x) : x.2 = p + (ga x.1.toNat).length := by
  have hf := (qla h).1
  unfold fg at hf
  cases hz : fz (l.drop p) with
  | none => rw [hz] at hf; simp at hf
  | some k =>
    rw [hz] at hf
    simp only at hf
    unfold numOf at hf
    by_cases h1 : 64 ≤ k
    · rw [if_pos h1] at hf; simp at hf
    · rw [if_neg h1] at hf
      by_cases h2 : l.length < p + k + 1 + k
      · rw [if_pos h2] at hf; simp at hf
      · rw [if_neg h2] at hf
        by_cases h3 : 1099511627776 < bv ((l.drop (p + k + 1)).take k) + 2 ^ k - 1
        · rw [if_pos h3] at hf; simp at hf
        · rw [if_neg h3] at hf
          simp only [Prod.mk.injEq, and_true] at hf
          have hb := qhZ (qdU (qde hl (p + k + 1)) k)
          rw [List.length_take, List.length_drop, Nat.min_eq_left (by omega)] at hb
          have hp0 : 0 < 2 ^ k := Nat.pow_pos (by decide)
          have hn : x.1.toNat = bv ((l.drop (p + k + 1)).take k) + 2 ^ k - 1 := by omega
          have hlg : lg x.1.toNat = k := qo1 (by omega) (by rw [Nat.pow_succ]; omega)
          rw [qkN, hlg]
          omega
theorem qrW {l : List Int} (hl : Bit l) {B : Int} (hB : 0 ≤ B) {node p : Nat} {o : Int × Nat} (h : pkO l B node p = some o) : o.2 = p + (pkH B o.1.toNat).length := by
  unfold pkO at h
  unfold pkH
  split at h
  · rename_i h0
    simp only [Option.some.injEq] at h
    subst h
    rw [if_neg (by omega)]
    simp
  · rw [if_pos (by omega)]
    exact qqx hl h
theorem ql2 {g : List (List Int)} {x : List Int} {i : Nat} (h : i < g.length) : (g ++ [x]).getD i [] = g.getD i [] := by
  rw [List.getD_eq_getElem?_getD, List.getD_eq_getElem?_getD, List.getElem?_append_left h]
theorem qok {g : List (List Int)} {x : List Int} {i r : Nat} (h : i ≤ g.length) (hr : r ≤ i) : pkF (g ++ [x]) i r = pkF g i r := by
  unfold pkF
  split
  · exact ql2 (by omega)
  · rfl
theorem qrV {g : List (List Int)} {x : List Int} {B least : Int} {k i : Nat} (h : i < g.length) : pkN (g ++ [x]) B least k i = pkN g B least k i := by
  unfold pkN
  refine qjr fun r hr => ?_
  unfold pkW
  rw [ql2 h, qok (by omega) (by omega)]
theorem qoi {g : List (List Int)} {x : List Int} {B least : Int} {k : Nat} : ∀ {i : Nat}, i ≤ g.length → pkA (g ++ [x]) B least k i = pkA g B least k i
  | 0, _ => rfl
  | i + 1, h => by
    unfold pkA
    rw [qoi (i := i) (by omega), qrV (by omega)]
theorem qil {l : List Int} (hl : Bit l) {B least : Int} {k : Nat} (hB : 0 ≤ B) (hk : 1 ≤ k) : ∀ (m p : Nat) (out : List (List Int)) (r : List (List Int) × Nat), pkR l B least k m out p = some r → p ≤ l.length → (pkA out B least k out.length).1.length ≤ p →
    r.1.length = out.length + m ∧ (pkA r.1 B least k r.1.length).1.length ≤ r.2
  | 0, p, out, r, h, _, hA => by
    simp only [pkR, Option.some.injEq] at h
    subst h
    exact ⟨rfl, hA⟩
  | m + 1, p, out, r, h, hp, hA => by
    unfold pkR at h
    rw [Option.bind_eq_some_iff] at h
    obtain ⟨o, ho, h⟩ := h
    rw [Option.bind_eq_some_iff] at h
    obtain ⟨d, hd, h⟩ := h
    obtain ⟨o1, o2, o3⟩ := qqf hB hp ho
    have hol := qrW hl hB ho
    obtain ⟨d1, d2, d3, d4, d5⟩ := qgQ hl hk hd
    have hn1 : (out ++ [d.1]).length = out.length + 1 := by simp
    have hmin := qnR (pkW (out ++ [d.1]) B least k out.length) (n := min B.toNat out.length) (r := o.1.toNat) (by omega)
    have hW : (pkW (out ++ [d.1]) B least k out.length o.1.toNat).length = (pkH B o.1.toNat).length + (enc (out.length : Int) d.1 (pkF out out.length o.1.toNat) o.1 least k).length := by
      unfold pkW
      rw [List.length_append, qok (Nat.le_refl _) (by omega), show ((o.1.toNat : Nat) : Int) = o.1 from by omega]
      congr 3
      rw [List.getD_eq_getElem?_getD, List.getElem?_append_right (Nat.le_refl _)]
      simp
    have hrec := qil hl hB hk m d.2 (out ++ [d.1]) r h d5 (by
      rw [hn1, pkA, List.length_append, qoi (Nat.le_refl _)]
      unfold pkN
      omega)
    rw [hn1] at hrec
    exact ⟨by omega, hrec.2⟩
theorem qf5 {F : Nat} {xs : List (List Int)} (hm : xs.length ≤ 1000000) (hr : ∀ r ∈ xs, r.length ≤ 1000000 ∧ r.length < F) : ∀ (k i : Nat), xs.length < k + i → i ≤ xs.length → yH F xs xs k (i : Int) = some true
  | 0, _, _, _ => by omega
  | k + 1, i, h, hi => by
    show qa3 F xs xs (yH F xs xs k) (i : Int) = _
    unfold qa3
    by_cases hlt : i < xs.length
    · have := hr _ (List.getElem_mem hlt)
      rw [if_pos (by simp; omega), qs, List.getElem?_eq_getElem hlt]
      simp only [Option.bind_some]
      rw [qix this.2 this.1]
      simp only [Option.bind_some]
      rw [if_neg (by simp), qn (by omega)]
      exact qf5 hm hr k (i + 1) (by omega) (by omega)
    · rw [if_neg (by simp; omega)]
      rfl
theorem qmi {F : Nat} {xs : List (List Int)} (hF : xs.length < F) (hm : xs.length ≤ 1000000) (hr : ∀ r ∈ xs, r.length ≤ 1000000 ∧ r.length < F) : qcV F xs xs = some true := by
  unfold qcV
  rw [if_neg (by simp)]
  exact qf5 hm hr F 0 (by omega) (by omega)
def PSm (g : List (List Int)) : Prop := g.length ≤ 100 ∧ ∀ r ∈ g, r.length ≤ 1200
theorem qfx {F : Nat} {g : List (List Int)} (hF : 2000 ≤ F) (h : PSm g) : qbn F g g = some true := by
  unfold qbn
  have := h.1
  rw [qmi (by omega) (by omega) (fun r hr => by have := h.2 r hr; omega)]
  rfl
theorem qr2 : PSm [] := ⟨by simp, fun r hr => by simp at hr⟩
theorem qql {g : List (List Int)} (h : Gr g) : PSm g := ⟨h.1, fun r hr => by have := qpX h hr; omega⟩
theorem qr1 {N B least k m : Int} {b : List Int} (h : (prd N B least k m b).2 ≠ 0) : (prd N B least k m b).1 = [] := by
  unfold prd at h ⊢
  split
  · rfl
  · rename_i h1
    rw [if_neg h1] at h
    cases hr : pkR (bl b m.toNat) B least k.toNat N.toNat [] 0 with
    | none => rfl
    | some r =>
      rw [hr] at h
      simp only at h ⊢
      split
      · rename_i h2; rw [if_pos h2] at h; simp at h
      · rfl
theorem qs5 {g : List (List Int)} {B least k : Int} (h : pkE g B least k = 0) : prd (g.length : Int) B least k ((pkA g B least k.toNat g.length).1.length : Int) (pk (pkA g B least k.toNat g.length).1) = (g, 0) := by
  obtain ⟨h1, h2, h3⟩ := qfw h
  have hg := qef.1 h1
  have hgl := hg.1
  obtain ⟨k1, k2, k', rfl, k3, k4⟩ := qbZ h2
  rw [Int.toNat_natCast] at h3 ⊢
  have hE : pcE (g.length : Int) B least (k' : Int) ((pkA g B least k' g.length).1.length : Int) (pk (pkA g B least k' g.length).1) = 0 := by
    unfold pcE
    rw [if_neg (by omega), if_neg (by simp [h2]), qm0 h3]
  have hr := qhM hg h2 h3 [] g.length 0 (by omega)
  have hr' : pkR (pkA g B least k' g.length).1 B least k' g.length [] 0 = some (g, (pkA g B least k' g.length).1.length) := by
    rw [List.append_nil] at hr
    exact hr
  unfold prd
  rw [if_neg (by simp [hE])]
  simp only [Int.toNat_natCast]
  rw [qbg (qeg _), hr']
  simp only
  rw [if_pos ⟨trivial, h, trivial⟩]
theorem qqk {N B least k m : Int} {b : List Int} (hb : U8s b) (h : (prd N B least k m b).2 = 0) : ∃ g, prd N B least k m b = (g, 0) ∧ pkE g B least k = 0 ∧ N = (g.length : Int) ∧ m = ((pkA g B least k.toNat g.length).1.length : Int) ∧ b = pk (pkA g B least k.toNat g.length).1 := by
  have h0 := h
  unfold prd at h
  by_cases hE : pcE N B least k m b = 0
  · rw [if_neg (by simp [hE])] at h
    obtain ⟨n, l, rfl, hn, hh, hl, hlm, rfl, rfl⟩ := qng hb hE
    obtain ⟨k1, k2, k', rfl, k3, k4⟩ := qbZ hh
    simp only [Int.toNat_natCast, qbg hl] at h
    cases hr : pkR l B least k' n [] 0 with
    | none => rw [hr] at h; simp at h
    | some r =>
      rw [hr] at h
      simp only at h
      split at h
      · rename_i hc
        obtain ⟨c1, c2, c3⟩ := hc
        obtain ⟨g1, g2, g3⟩ := qfw c2
        rw [Int.toNat_natCast] at g3
        have hg := qef.1 g1
        obtain ⟨b1, b2⟩ := qil hl k1.1 k3 n 0 [] r hr (Nat.zero_le _) (by simp [pkA])
        rw [List.length_nil, Nat.zero_add] at b1
        have hq : l = (pkA r.1 B least k' r.1.length).1 ++ l.drop (pkA r.1 B least k' r.1.length).1.length := by
          have e1 : l.take (pkA r.1 B least k' r.1.length).1.length = (pkA r.1 B least k' r.1.length).1 := by
            have := qrw (b := pk l) (n := (pkA r.1 B least k' r.1.length).1.length) (m := l.length) (by omega)
            rw [qbg hl, ← c3, qbg (qeg _)] at this
            exact this
          conv => lhs; rw [← List.take_append_drop (pkA r.1 B least k' r.1.length).1.length l, e1]
        have hr2 := qhM hg hh g3 (l.drop (pkA r.1 B least k' r.1.length).1.length) r.1.length 0 (by omega)
        rw [← hq] at hr2
        have hr3 : pkR l B least k' n [] 0 = some (r.1, (pkA r.1 B least k' r.1.length).1.length) := by
          rw [← b1]; exact hr2
        rw [hr] at hr3
        have e2 : r.2 = (pkA r.1 B least k' r.1.length).1.length := by
          have := Option.some.inj hr3
          rw [this]
        refine ⟨r.1, ?_, c2, by omega, by rw [Int.toNat_natCast]; omega, by rw [Int.toNat_natCast]; exact c3.symm⟩
        unfold prd
        rw [if_neg (by simp [hE])]
        simp only [Int.toNat_natCast, qbg hl, hr]
        rw [if_pos ⟨c1, c2, c3⟩]
      · simp at h
  · rw [if_pos hE] at h
    exact absurd h hE
def pkSome : List (List Int) := [[1, 2, 3, 5], [1, 2, 3, 5], [0, 1, 2, 3, 5], [], [4], [1, 2, 3]]
theorem qqg : pkE pkSome 3 3 2 = 0 := by decide +kernel
theorem qqi : (pkA pkSome 3 3 2 6).2 = ([0, 1, 1, 0, 0, 0], [0, 19, 28, 43, 45, 52]) := by decide +kernel
theorem qqh : prd 1 3 3 2 0 [] = ([], 1) := by decide +kernel
theorem pbegun {F : Nat} (hF : 2000000 ≤ F) : qcL F = some true := by
  have hS : j4 F = some pkSome := rfl
  have hE := qqg
  have hg := qef.1 (qfw hE).1
  have h3 := (qfw hE).2.2
  have hR := qs5 hE
  unfold qcL vZ
  rw [hS]
  simp only [Option.bind_some]
  rw [qhh hF]
  simp only [Option.bind_some]
  have hW : pwr pkSome 3 3 2 = ((pkSome.length : Int), 3, 3, 2, ((pkA pkSome 3 3 (2 : Int).toNat pkSome.length).1.length : Int), pk (pkA pkSome 3 3 (2 : Int).toNat pkSome.length).1, 0) := by
    unfold pwr
    rw [if_neg (by simp [hE])]
  have hT : ptl pkSome 3 3 2 = ([0, 1, 1, 0, 0, 0], [0, 19, 28, 43, 45, 52], 0) := by
    unfold ptl
    rw [if_neg (by simp [hE])]
    have := qqi
    rw [show (2 : Int).toNat = 2 from rfl, show pkSome.length = 6 from rfl]
    rw [show (pkA pkSome 3 3 2 6).2.1 = [0, 1, 1, 0, 0, 0] from by rw [this], show (pkA pkSome 3 3 2 6).2.2 = [0, 19, 28, 43, 45, 52] from by rw [this]]
  rw [hW]
  simp only
  rw [qim hF (qeJ (qeg _)) (qrK h3) (qrY h3), hR]
  simp only [Option.bind_some]
  rw [qmj hF, hT]
  simp only [Option.bind_some]
  rw [qim hF (by intro y hy; simp at hy) ⟨by omega, by omega⟩ (by simp), qqh]
  simp only [Option.bind_some]
  rw [if_pos (by rfl), if_pos (by rfl), if_pos (by rfl), qfx (by omega) (qql hg)]
  simp only [Option.bind_some]
  rw [if_pos (by trivial), if_pos (by rfl), if_pos (by rfl)]
  rfl
theorem qlb {F : Nat} {b l k : Int} : qaQ F b l k = some (hcE b l k) := by
  unfold qaQ jP qbA jP qbz zE hcE
  simp only [Option.bind_some]
  by_cases h1 : 0 ≤ b ∧ b ≤ 7
  · have e1 : (!(decide (0 ≤ b) && decide (b ≤ 7))) = false := by simp; omega
    rw [e1, if_neg (by simp)]
    by_cases h3 : 1 ≤ k ∧ k ≤ 16
    · have e3 : (!(decide (1 ≤ k) && decide (k ≤ 16))) = false := by simp; omega
      by_cases h2 : l = 0
      · rw [if_neg (by simp [h2]), if_neg (by simp), e3, if_neg (by simp), if_neg (show ¬ hcB b l k from by unfold hcB; omega)]
      · rw [if_pos (by simpa using h2)]
        by_cases h4 : 2 ≤ l ∧ l ≤ 300
        · have e4 : (!(decide (2 ≤ l) && decide (l ≤ 300))) = false := by simp; omega
          rw [e4, if_neg (by simp), e3, if_neg (by simp), if_neg (show ¬ hcB b l k from by unfold hcB; omega)]
        · have e4 : (!(decide (2 ≤ l) && decide (l ≤ 300))) = true := by simp; omega
          rw [e4, if_pos rfl, if_pos (by trivial), if_pos (show hcB b l k from by unfold hcB; omega)]
    · have e3 : (!(decide (1 ≤ k) && decide (k ≤ 16))) = true := by simp; omega
      by_cases h2 : l = 0
      · rw [if_neg (by simp [h2]), if_neg (by simp), e3, if_pos (by trivial), if_pos (show hcB b l k from by unfold hcB; omega)]
      · rw [if_pos (by simpa using h2)]
        by_cases h4 : 2 ≤ l ∧ l ≤ 300
        · have e4 : (!(decide (2 ≤ l) && decide (l ≤ 300))) = false := by simp; omega
          rw [e4, if_neg (by simp), e3, if_pos (by trivial), if_pos (show hcB b l k from by unfold hcB; omega)]
        · have e4 : (!(decide (2 ≤ l) && decide (l ≤ 300))) = true := by simp; omega
          rw [e4, if_pos rfl, if_pos (by trivial), if_pos (show hcB b l k from by unfold hcB; omega)]
  · have e1 : (!(decide (0 ≤ b) && decide (b ≤ 7))) = true := by simp; omega
    rw [e1, if_pos rfl, if_pos (by trivial), if_pos (by trivial), if_pos (show hcB b l k from by unfold hcB; omega)]
theorem qqF {F : Nat} (hF : 20000 ≤ F) {node back least k : Int} {fr : List Int} : qd6 F node fr back least k = some (scE node fr back) := by
  unfold qd6 zE scE
  simp only [Option.bind_some]
  by_cases h1 : 0 ≤ node ∧ node ≤ 1048576
  · rw [if_neg (by simp; omega), if_pos (show Nd node from h1)]
    by_cases h2 : 0 < back
    · rw [if_pos (by simpa using h2), if_pos h2, qfQ hF]; rfl
    · rw [if_neg (by simpa using h2), if_neg h2]
  · rw [if_pos (by simp; omega), if_neg (show ¬ Nd node from h1)]
theorem rgl {F : Nat} (hF : 20000 ≤ F) {n : Int} (h0 : 0 ≤ n) (hn : n ≤ 1099511627776) : zQ F (iconv .u64 n) = some (ga n.toNat) := by
  obtain ⟨m, rfl⟩ := Int.eq_ofNat_of_zero_le h0
  rw [zP (by omega), qe1 hF (by omega), Int.toNat_natCast]
theorem qmo {F k : Nat} (hF : 20000 ≤ F) (h1 : 1 ≤ k) (h2 : k ≤ 16) {S rest : List Int} {node q : Int} (hn : Nd node) (hm : rest.length ≤ 300) (hs : Ris q rest) (hS : S.length ≤ 1000000) :
    je F node (k : Int) S rest = some (S ++ zes k (gp false node rest)) := by
  unfold je
  rw [qoY hF hm hn hs]
  simp only [Option.bind_some]
  have hl := qha false node rest
  have h40 : L40 (gp false node rest) := fun x hx => by
    have := qjB hn hs (fun h => by simp at h) x hx
    omega
  have hz := qhA (F := F) hF h1 h2 h40 (by omega) F 0 [] (by omega) (Nat.zero_le _) (by simp; omega)
  have hz' : kU F (gp false node rest) (k : Int) F ([], 0) = _ := hz
  unfold qep
  rw [hz', List.drop_zero, List.nil_append]
  simp only [Option.bind_some]
  have := qlt h2 h40
  rw [qQ (by omega)]
  rfl
theorem qoB {F k : Nat} (hF : 20000 ≤ F) (hk1 : 1 ≤ k) (hk2 : k ≤ 16) {node q0 : Int} {R : List (Int × Int)} {rest : List Int} {least : Int} (hn : Nd node) (hm : R.length ≤ 300) (hR : ∀ r ∈ R, RunOk r ∧ least ≤ r.2) (hle : 0 ≤ least) (hrm : rest.length ≤ 300) (hrs : Ris q0 rest) :
    ∀ (j i : Nat) (S : List Int), R.length < j + i → i ≤ R.length → S.length + 200 * (R.length - i) ≤ 900000 → (∃ q, Sep q (R.drop i)) → (∀ h : 0 < i, ∃ q, Sep q (R.drop (i - 1))) →
    zS F node least (k : Int) (R, rest) j (S, (i : Int)) = some (S ++ (encRs least (decide (0 < i)) (if h : 0 < i ∧ i ≤ R.length then (R[i - 1]'(by omega)).1 + (R[i - 1]'(by omega)).2 - 1 else node) (R.drop i) ++ zes k (gp false node rest)))
  | 0, _, _, _, _, _, _, _ => by omega
  | j + 1, i, S, h, hi, hS, hs, hs1 => by
    show qa4 F node least (k : Int) (R, rest) (zS F node least (k : Int) (R, rest) j) S (i : Int) = _
    unfold qa4
    by_cases hlt : i < R.length
    · obtain ⟨hro, hrl⟩ := hR R[i] (List.getElem_mem hlt)
      unfold RunOk at hro
      unfold Nd at hn
      rw [if_pos (by simp; omega), List.drop_eq_getElem_cons hlt]
      have hj : ∀ (g : Nat), g ≤ 1099511627776 → jf F (zS F node least (k : Int) (R, rest) j) least (R, rest) (i : Int) (S ++ ga g) = some (S ++ (ga g ++ (ga (R[i].2 - least).toNat ++ encRs least true (R[i].1 + R[i].2 - 1) (R.drop (i + 1)))) ++ zes k (gp false node rest)) := fun g hg => by
        unfold jf
        have hg1 := qct hg
        have hg2 := qct (n := (R[i].2 - least).toNat) (by omega)
        rw [qs, List.getElem?_eq_getElem hlt]
        simp only [Option.bind_some]
        rw [qx (by omega) (by omega), rgl hF (by omega) (by omega)]
        simp only [Option.bind_some]
        rw [qQ (by rw [List.length_append]; omega)]
        simp only [Option.bind_some]
        rw [qn (by omega)]
        obtain ⟨q, hsp⟩ := hs
        rw [List.drop_eq_getElem_cons hlt] at hsp
        rw [qoB hF hk1 hk2 (by unfold Nd; omega) hm hR hle hrm hrs j (i + 1) _ (by omega) (by omega) (by simp only [List.length_append]; omega) ⟨_, hsp.2.2⟩ (fun _ => by
          rw [Nat.add_sub_cancel, List.drop_eq_getElem_cons hlt]; exact ⟨q, hsp⟩)]
        have hc : 0 < i + 1 ∧ i + 1 ≤ R.length := ⟨by omega, by omega⟩
        rw [dif_pos hc]
        simp only [Nat.add_sub_cancel, Nat.zero_lt_succ, decide_true]
        simp only [List.append_assoc]
      by_cases h0 : i = 0
      · subst h0
        have hf := qdV (x := R[0].1 - node) (by omega)
        rw [if_pos (by simp)]
        have e0 : idx R 0 = some R[0] := by
          show idx R ((0 : Nat) : Int) = _
          rw [qs, List.getElem?_eq_getElem hlt]
        rw [e0]
        simp only [Option.bind_some]
        rw [qx (by omega) (by omega), qjz F (by omega) (by omega)]
        simp only [Option.bind_some]
        obtain ⟨g, hg⟩ := Int.eq_ofNat_of_zero_le hf.1
        rw [hg, qe1 hF (by omega)]
        simp only [Option.bind_some]
        have hg1 := qct (n := g) (by omega)
        rw [qQ (by omega)]
        simp only [Option.bind_some]
        rw [hj g (by omega)]
        simp only [encRs, Nat.lt_irrefl, decide_false, Bool.false_eq_true, if_false, false_and, dite_false]
        rw [hg, Int.toNat_natCast]
        simp only [List.append_assoc]
      · have hi0 : 0 < i := by omega
        obtain ⟨q1, hq1⟩ := hs1 hi0
        have hlt1 : i - 1 < R.length := by omega
        rw [List.drop_eq_getElem_cons hlt1, show i - 1 + 1 = i from by omega, List.drop_eq_getElem_cons hlt] at hq1
        obtain ⟨a1, a2, a3⟩ := hq1
        obtain ⟨b1, b2, b3⟩ := a3
        obtain ⟨hro1, hrl1⟩ := hR R[i - 1] (List.getElem_mem hlt1)
        unfold RunOk at hro1
        rw [if_neg (by simp; omega), qs, List.getElem?_eq_getElem hlt, vU (by omega) (by omega), qs, List.getElem?_eq_getElem hlt1]
        simp only [Option.bind_some]
        rw [qr (by omega) (by omega), qx (a := R[i - 1].1 + R[i - 1].2) (by omega) (by omega), qx (a := R[i].1) (by omega) (by omega), qx (by omega) (by omega), rgl hF (by omega) (by omega)]
        simp only [Option.bind_some]
        have hg1 := qct (n := (R[i].1 - (R[i - 1].1 + R[i - 1].2 - 1) - 2).toNat) (by omega)
        rw [qQ (by omega)]
        simp only [Option.bind_some]
        rw [hj _ (by omega)]
        rw [dif_pos ⟨hi0, by omega⟩]
        simp only [encRs, hi0, decide_true, if_true]
        simp only [List.append_assoc]
    · rw [if_neg (by simp; omega), List.drop_eq_nil_of_le (by omega)]
      rw [qmo hF hk1 hk2 hn hrm hrs (by omega)]
      simp [encRs]
theorem qmq {F k : Nat} (hF : 2000000 ≤ F) (h1 : 1 ≤ k) (h2 : k ≤ 16) {S rest : List Int} {node least : Int} (hn : Nd node) (hg : gkc rest = 0) (hS : S.length ≤ 500000) : ym F node least (k : Int) S rest = some (S ++ encL node rest least k) := by
  obtain ⟨hm, hs⟩ := zA.1 hg
  unfold ym encL encO encS
  by_cases h0 : rest = []
  · subst h0
    rw [if_pos (by simp), if_pos rfl, List.append_nil]
  · have hlen : rest.length ≠ 0 := by simpa using h0
    rw [if_neg (by simp; exact h0), if_neg h0]
    by_cases hl : 0 < least
    · rw [if_pos (by simpa using hl), if_pos hl, if_pos hl, if_pos hl, qpa hF hm hs]
      simp only [Option.bind_some]
      obtain ⟨s1, s2⟩ := qle (least := least) hm hs
      obtain ⟨r1, r2⟩ := qjR hm hs
      rw [rgl (by omega) (by omega) (by omega), Int.toNat_natCast]
      simp only [Option.bind_some]
      have hg1 := qct (n := (spO least (rs rest)).length) (by omega)
      rw [qQ (by omega)]
      simp only [Option.bind_some]
      have hsep : Sep (-1) (spO least (rs rest)) := qb0 _ r1
      have := qoB (F := F) (by omega) h1 h2 (R := spO least (rs rest)) (rest := flat (spS least (rs rest))) (least := least) (q0 := -1) hn (by omega) (fun r hr => ⟨r2 r (List.mem_filter.1 hr).1, by simpa using (List.mem_filter.1 hr).2⟩) (by omega) s2 (qhP hs _) F 0 (S ++ ga (spO least (rs rest)).length) (by omega) (Nat.zero_le _) (by rw [List.length_append]; omega) ⟨_, hsep⟩ (fun h => absurd h (by omega))
      have this' : zS F node least (k : Int) (spO least (rs rest), flat (spS least (rs rest))) F (S ++ ga (spO least (rs rest)).length, 0) = _ := this
      rw [this', List.drop_zero]
      simp only [Nat.lt_irrefl, decide_false, false_and, dite_false, encR, List.append_assoc]
    · rw [if_neg (by simpa using hl), if_neg hl, if_neg hl, List.nil_append]
      exact qmo (by omega) h1 h2 hn hm hs (by omega)
theorem qqs {F k : Nat} (hF : 2000000 ≤ F) {bs rest : List Int} {node least : Int} (hm : bs.length ≤ 301) (hb : ∀ n ∈ bs, n ≤ 1000000) : ∀ (j i : Nat) (S : List Int), bs.length < j + i → i ≤ bs.length → S.length + 100 * (bs.length - i) ≤ 400000 → okB (decide (i = 0)) (bs.drop i) = true →
    zT F node least (k : Int) (bs, rest) j (S, (i : Int)) = ym F node least (k : Int) (S ++ encBs (decide (0 < i)) (bs.drop i)) rest
  | 0, _, _, _, _, _, _ => by omega
  | j + 1, i, S, h, hi, hS, hok => by
    show qa5 F node least (k : Int) (bs, rest) (zT F node least (k : Int) (bs, rest) j) S (i : Int) = _
    unfold qa5
    by_cases hlt : i < bs.length
    · have hbi := hb _ (List.getElem_mem hlt)
      rw [if_pos (by simp; omega), qs, List.getElem?_eq_getElem hlt, List.drop_eq_getElem_cons hlt]
      simp only [Option.bind_some]
      rw [List.drop_eq_getElem_cons hlt, qeI] at hok
      simp only [Bool.and_eq_true] at hok
      have h0 : 0 ≤ bs[i] := by simpa using hok.1.1
      have h1 : 0 < i → 1 ≤ bs[i] := fun hi0 => by
        have := hok.1.2
        have e : decide (i = 0) = false := by simp; omega
        rw [e] at this
        simp at this
        omega
      have hstep : ∀ x : Int, 0 ≤ x → x ≤ 1000000 → jg F (zT F node least (k : Int) (bs, rest) j) S (i : Int) x = ym F node least (k : Int) (S ++ (ga x.toNat ++ encBs true (bs.drop (i + 1)))) rest := fun x hx0 hx1 => by
        unfold jg
        rw [rgl (by omega) hx0 (by omega)]
        simp only [Option.bind_some]
        have hg := qct (n := x.toNat) (by omega)
        rw [qQ (by omega)]
        simp only [Option.bind_some]
        rw [qn (by omega), qqs hF hm hb j (i + 1) _ (by omega) (by omega) (by rw [List.length_append]; omega) (by
          have := hok.2
          have e : decide (i + 1 = 0) = false := by simp
          rw [e]; exact this)]
        simp only [Nat.zero_lt_succ, decide_true, List.append_assoc]
      by_cases hi0 : 0 < i
      · rw [if_pos (by simp; omega), qx (by omega) (by omega), hstep _ (by have := h1 hi0; omega) (by omega)]
        simp only [encBs, hi0, decide_true, if_true]
      · rw [if_neg (by simp; omega), hstep _ h0 hbi]
        simp only [encBs, hi0, decide_false, Bool.false_eq_true, if_false, Int.sub_zero]
    · rw [if_neg (by simp; omega), List.drop_eq_nil_of_le (by omega)]
      simp [encBs]
theorem qhi {F k : Nat} (hF : 2000000 ≤ F) (h1 : 1 ≤ k) (h2 : k ≤ 16) {x fr : List Int} {node back least : Int} (hn : Nd node) (hg : gkc x = 0) (hfr : 0 < back → gkc fr = 0) :
    qcd F node x fr back least (k : Int) = some (enc node x fr back least k) := by
  obtain ⟨hm, hs⟩ := zA.1 hg
  unfold qcd enc rstO
  rw [rgl (by omega) (by omega) (by omega), Int.toNat_natCast]
  simp only [Option.bind_some]
  have hg1 := qct (n := x.length) (by omega)
  by_cases h0 : x = []
  · subst h0
    rw [if_pos (by simp), if_pos rfl, List.append_nil]
  · rw [if_neg (by simpa using h0), if_neg h0]
    by_cases hb : 0 < back
    · have hfg := hfr hb
      have hfl := (zA.1 hfg).1
      rw [if_pos (by simpa using hb), if_pos hb, if_pos hb, qnj (by omega) hfl hm]
      simp only [Option.bind_some]
      have htl := qfX fr x
      have hok : okB true (tbs fr x) = true := qft _ _ _ _ (by omega) (Or.inl rfl)
      have hsum : bsum (tbs fr x) ≤ 0 + (fr.map (hasB x)).length := qed _ _ _ (by omega)
      rw [List.length_map] at hsum
      have hbd : ∀ n ∈ tbs fr x, n ≤ 1000000 := fun n hnm => by
        have := qfM hok n hnm
        omega
      rw [rgl (by omega) (by omega) (by omega), Int.toNat_natCast]
      simp only [Option.bind_some]
      have hg2 := qct (n := (tbs fr x).length) (by omega)
      rw [qQ (by omega)]
      simp only [Option.bind_some]
      have hbl := qqs (F := F) (k := k) (rest := rst fr x) (node := node) (least := least) hF (bs := tbs fr x) (by omega) hbd F 0 (ga x.length ++ ga (tbs fr x).length) (by omega) (Nat.zero_le _) (by rw [List.length_append]; omega) (by simpa using hok)
      have hbl' : zT F node least (k : Int) (tbs fr x, rst fr x) F (ga x.length ++ ga (tbs fr x).length, 0) = _ := hbl
      have hlen : (encBs false (tbs fr x)).length ≤ 81 * (tbs fr x).length := by
        have key : ∀ (bs : List Int) (b : Bool), (∀ n ∈ bs, n ≤ 1000000) → (encBs b bs).length ≤ 81 * bs.length := by
          intro bs
          induction bs with
          | nil => intro b _; simp [encBs]
          | cons n bs ih =>
            intro b hn
            have h3 := ih true (fun y hy => hn y (by simp [hy]))
            have h4 := hn n (by simp)
            have h5 := qct (n := (n - if b then 1 else 0).toNat) (by split <;> omega)
            simp only [encBs, List.length_append, List.length_cons]
            omega
        exact key _ _ hbd
      rw [hbl', List.drop_zero, show decide (0 < 0) = false from rfl, qmq hF h1 h2 hn (qgT hg) (by simp only [List.length_append]; omega)]
      simp only [encB, List.append_assoc]
    · rw [if_neg (by simpa using hb), if_neg hb, if_neg hb, List.nil_append]
      exact qmq hF h1 h2 hn hg (by omega)
theorem qlm {x : Int} (h0 : 0 ≤ x) (h1 : x ≤ 1000000) : iadd .u64 x 1 = x + 1 := by
  obtain ⟨n, rfl⟩ := Int.eq_ofNat_of_zero_le h0
  rw [qdD (by omega)]; omega
theorem qjW {F : Nat} {rec158 : (List Int × Int) → Option (List Int)} {l out : List Int} {i : Nat} {x : Int} (hx : l[i]? = some x) (ho : out.length ≤ 1000000) : ∀ (j a : Nat), a < j → a ≤ out.length → (∀ z ∈ out.drop a, x ≤ z) → out.Pairwise (· ≤ ·) →
    ∃ p : Nat, p ≤ out.length ∧ yl F rec158 l out (i : Int) j (a : Int) = qbE F rec158 l out (i : Int) (p : Int) ∧ (∀ z ∈ out.drop p, x ≤ z) ∧ (∀ z ∈ out.take p, z ≤ x)
  | 0, _, h, _, _, _ => by omega
  | j + 1, a, h, ha, hd, hp => by
    show ∃ p : Nat, p ≤ out.length ∧ qbD F rec158 l out (i : Int) (yl F rec158 l out (i : Int) j) (a : Int) = _ ∧ _
    unfold qbD
    by_cases h0 : 0 < a
    · have hlt : a - 1 < out.length := by omega
      rw [if_pos (by simpa using h0), vU (by omega) (by omega), qs, List.getElem?_eq_getElem hlt, qs, hx]
      simp only [Option.bind_some]
      unfold qbF
      by_cases h1 : x < out[a - 1]
      · rw [if_pos (by simpa using h1), vU (by omega) (by omega)]
        refine qjW hx ho j (a - 1) (by omega) (by omega) (fun z hz => ?_) hp
        rw [List.drop_eq_getElem_cons hlt, show a - 1 + 1 = a from by omega] at hz
        rcases List.mem_cons.1 hz with rfl | hz
        · omega
        · exact hd z hz
      · rw [if_neg (by simpa using h1)]
        refine ⟨a, ha, rfl, hd, fun z hz => ?_⟩
        obtain ⟨q, hq, rfl⟩ := List.mem_iff_getElem.1 hz
        rw [List.length_take] at hq
        rw [List.getElem_take]
        by_cases hqa : q = a - 1
        · subst hqa; omega
        · have := (List.pairwise_iff_getElem.1 hp) q (a - 1) (by omega) hlt (by omega)
          omega
    · rw [if_neg (by simpa using h0)]
      refine ⟨a, ha, rfl, hd, fun z hz => ?_⟩
      have : a = 0 := by omega
      subst this
      simp at hz
theorem qs7 {out : List Int} {x : Int} {p : Nat} (hp : out.Pairwise (· ≤ ·)) (h1 : ∀ z ∈ out.drop p, x ≤ z) (h2 : ∀ z ∈ out.take p, z ≤ x) : (out.take p ++ [x] ++ out.drop p).Pairwise (· ≤ ·) := by
  rw [List.append_assoc, List.pairwise_append]
  refine ⟨hp.sublist (List.take_sublist _ _), ?_, ?_⟩
  · rw [List.singleton_append, List.pairwise_cons]
    exact ⟨h1, hp.sublist (List.drop_sublist _ _)⟩
  · intro a ha b hb
    rcases List.mem_append.1 hb with hb | hb
    · simp at hb; subst hb; exact h2 a ha
    · have hab := hp
      rw [← List.take_append_drop p out, List.pairwise_append] at hab
      exact hab.2.2 a ha b hb
theorem qmx {F : Nat} {l : List Int} (hF : l.length < F) (hm : l.length ≤ 100000) : ∀ (k i : Nat) (out : List Int), l.length < k + i → i ≤ l.length → out.Perm (l.take i) → out.Pairwise (· ≤ ·) → qP F l k (out, (i : Int)) = some (srt l)
  | 0, _, _, _, _, _, _ => by omega
  | k + 1, i, out, h, hi, hpm, hp => by
    show qbC F l (qP F l k) out (i : Int) = _
    unfold qbC
    have hlen := hpm.length_eq
    rw [List.length_take] at hlen
    by_cases hlt : i < l.length
    · rw [if_pos (by simp; omega)]
      obtain ⟨p, hpl, hM, h1, h2⟩ := qjW (F := F) (rec158 := qP F l k) (List.getElem?_eq_getElem hlt) (by omega) F out.length (by omega) (Nat.le_refl _) (by simp) hp
      rw [hM]
      unfold qbE
      have e0 : sub out 0 (p : Int) = some (out.take p) := by
        have := qgZ (l := out) (i := 0) (j := p) (by omega) hpl
        simpa using this
      rw [e0, qs, List.getElem?_eq_getElem hlt, qgZ hpl (Nat.le_refl _)]
      simp only [Option.bind_some]
      rw [qQ (by simp; omega)]
      simp only [Option.bind_some]
      rw [qQ (by simp; omega)]
      simp only [Option.bind_some]
      rw [qQ (by simp; omega)]
      simp only [Option.bind_some]
      unfold jR
      rw [qn (by omega), List.nil_append, List.take_length]
      refine qmx hF hm k (i + 1) _ (by omega) (by omega) ?_ (qs7 hp h1 h2)
      rw [List.take_add_one, List.getElem?_eq_getElem hlt]
      have e1 : (out.take p ++ [l[i]] ++ out.drop p).Perm (l[i] :: out) := by
        have := List.perm_middle (a := l[i]) (l₁ := out.take p) (l₂ := out.drop p)
        rw [List.take_append_drop] at this
        simpa using this
      refine e1.trans ((List.Perm.cons _ hpm).trans ?_)
      have := List.perm_append_comm (l₁ := [l[i]]) (l₂ := l.take i)
      simpa using this
    · rw [if_neg (by simp; omega)]
      unfold qdJ
      rw [List.take_of_length_le (by omega)] at hpm
      rw [qfC hpm.symm hp]
theorem qpe {F : Nat} {l : List Int} (hF : l.length < F) (hm : l.length ≤ 100000) : qeT F l = some (srt l) := by
  unfold qeT
  exact qmx hF hm F 0 [] (by omega) (Nat.zero_le _) (by simp) (by simp)
def gGap (l : List Int) (k : Nat) (node many : Int) (out : List Int) (p : Nat) : List Int × Bool :=
  match gfr l k (many - out.length).toNat false node p with
  | .inl _ => ([], false)
  | .inr g => (srt (out ++ g.1), true)
def gFst (b : Bool) (e node g : Int) : Int := if b then e + g + 2 else match st false node g with | none => -1 | some n => n
def gRn (l : List Int) (k : Nat) (node least many : Int) : Nat → Bool → Int → List Int → Nat → List Int × Bool
  | 0, _, _, out, p => gGap l k node many out p
  | j + 1, b, e, out, p => match rgam l p 4194304 with
    | none => ([], false)
    | some g => match rgam l g.2 1000 with
      | none => ([], false)
      | some x => if gFst b e node g.1 < 0 ∨ 1048576 < gFst b e node g.1 then ([], false) else
        if many < ((out ++ rng (gFst b e node g.1) (x.1 + least).toNat).length : Int) then ([], false)
        else gRn l k node least many j true (gFst b e node g.1 + x.1 + least - 1) (out ++ rng (gFst b e node g.1) (x.1 + least).toNat) x.2
def gG2 (l : List Int) (k : Nat) (node least many : Int) (out : List Int) (p : Nat) : List Int × Bool :=
  if (out.length : Int) = many then (out, true) else if 0 < least then match rgam l p 300 with
    | none => ([], false)
    | some n => gRn l k node least many n.1.toNat false node out n.2
  else gGap l k node many out p
def gG (l : List Int) (p : Nat) (node : Int) (fr : List Int) (back least : Int) (k : Nat) : List Int × Bool :=
  match rgam l p 300 with
  | none => ([], false)
  | some m => if m.1 = 0 then ([], true) else if 0 < back then match rgam l m.2 (fr.length + 1) with
      | none => ([], false)
      | some n => match rbl l 1000 n.1.toNat false n.2 with
        | none => ([], false)
        | some b => if (cpy fr b.1).2 = 0 ∧ ((cpy fr b.1).1.length : Int) ≤ m.1 then gG2 l k node least m.1 (cpy fr b.1).1 b.2 else ([], false)
    else gG2 l k node least m.1 [] m.2
theorem qgH {F : Nat} (hF : 20000 ≤ F) {l : List Int} (hl : Bit l) (hm : l.length ≤ 8192) {p : Nat} (hp : p ≤ l.length) {most : Int} {K : Int × Int × Int → Option (List Int × Bool)} {G : Int × Nat → List Int × Bool}
    (hN : ∀ g : Int × Int × Int, (g.2.2 ≠ 0 ∨ most < g.1) → K g = some ([], false)) (hS : ∀ (x : Int × Nat), rgam l p most = some x → 0 ≤ x.1 → x.1 ≤ most → x.1 ≤ 1099511627776 → x.2 ≤ l.length → K (x.1, (x.2 : Int), 0) = some (G x)) :
    (zZ F l (p : Int)).bind K = some (match rgam l p most with | none => ([], false) | some x => G x) := by
  rw [qe2 hF hl hm hp]
  simp only [Option.bind_some]
  cases hr : rgam l p most with
  | none =>
    refine hN _ ?_
    unfold rgam at hr
    by_cases h1 : (fg l p).2.2 = 0
    · right
      by_cases h2 : (fg l p).1 ≤ most
      · rw [if_pos ⟨h1, h2⟩] at hr; simp at hr
      · omega
    · left; exact h1
  | some x =>
    have hok := yY hr
    have := hS x hr hok.1 hok.2.1 hok.2.2.1 hok.2.2.2
    rw [← this]
    congr 1
    unfold rgam at hr
    split at hr
    · rename_i hc
      simp only [Option.some.injEq] at hr
      rw [← hr]
      have h3 : 0 ≤ (fg l p).2.1 := by
        rcases qjx (l := l) (a := p) with h1 | ⟨n, q, h1, h2, h3⟩
        · exact absurd hc.1 h1
        · rw [h1]; simp
      simp only
      rw [Int.toNat_of_nonneg h3, ← hc.1]
    · simp at hr
theorem qn1 {F k : Nat} (hF : 2000000 ≤ F) (h1 : 1 ≤ k) (h2 : k ≤ 16) {l : List Int} (hl : Bit l) (hm : l.length ≤ 8192) {node many : Int} (hn : Nd node) {out : List Int} (ho : (out.length : Int) ≤ many) (hmm : many ≤ 300) {p : Nat} (hp : p ≤ l.length) {x : Int × Int × Int} (hx : x.1 = many) :
    vr F l node (k : Int) x (p : Int) out = some (gGap l k node many out p) := by
  unfold vr qeQ gGap
  rw [hx]
  have e1 : iconv .i64 many = many := q4 (by omega) (by omega)
  rw [e1, qx (by omega) (by omega)]
  obtain ⟨n, hnn⟩ := Int.eq_ofNat_of_zero_le (a := many - (out.length : Int)) (by omega)
  rw [hnn]
  have := qh7 (F := F) (k := k) (many := n) (l := l) (by omega) hl hm h1 h2 (by omega) F p node [] (by simp; omega) (by simp) hp hn
  rw [this]
  simp only [Option.bind_some, List.length_nil, Nat.sub_zero, Nat.lt_irrefl, decide_false, Int.toNat_natCast]
  cases hg : gfr l k n false node p with
  | inl e =>
    rw [show gfI ([] : List Int) (.inl e) = ([], 0, e) from rfl, if_pos (by simpa using qm5 hg)]
  | inr r =>
    have hrl := qkO hg
    rw [show gfI ([] : List Int) (.inr r) = (r.1, (r.2 : Int), 0) from rfl, if_neg (by simp), qQ (by simp only; omega)]
    simp only [Option.bind_some]
    rw [qpe (by rw [List.length_append]; omega) (by rw [List.length_append]; omega)]
    rfl
theorem qsN {F : Nat} {rec64 : (Int × List Int × Int × Int) → Option (List Int × Bool)} {least i f : Int} {x x2 : Int × Int × Int} {out : List Int} (hx0 : 0 ≤ x2.1) (hx : x2.1 ≤ 1000) (hle : 0 ≤ least) (hle2 : least ≤ 300) (hf : 0 ≤ f) (hf2 : f ≤ 1048576) (ho : out.length ≤ 100000) : ∀ (j t : Nat), (x2.1 + least).toNat < j + t → t ≤ (x2.1 + least).toNat →
    ku F rec64 least x i x2 f j (out ++ rng f t, (t : Int)) = vu F rec64 least x i x2 f (out ++ rng f (x2.1 + least).toNat)
  | 0, _, _, _ => by omega
  | j + 1, t, h, ht => by
    show qah F rec64 least x i x2 f (ku F rec64 least x i x2 f j) (out ++ rng f t) (t : Int) = _
    unfold qah
    have e1 : iconv .i64 x2.1 = x2.1 := q4 (by omega) (by omega)
    rw [e1, qr (a := x2.1) (by omega) (by omega)]
    by_cases hlt : (t : Int) < x2.1 + least
    · rw [if_pos (by simpa using hlt), qr (by omega) (by omega), qQ (by rw [List.length_append, yk]; simp; omega)]
      simp only [Option.bind_some]
      rw [qn (by omega), List.append_assoc, ← qfz]
      exact qsN hx0 hx hle hle2 hf hf2 ho j (t + 1) (by omega) (by omega)
    · rw [if_neg (by simpa using hlt), show t = (x2.1 + least).toNat from by omega]
theorem qrG {F : Nat} {e node g : Int} (hn : Nd node) (hg : U64 g) : qb2 F g node true = some (gFst false e node g) := qh6 (b := false) hn hg
theorem qpT {F k : Nat} (hF : 2000000 ≤ F) (h1 : 1 ≤ k) (h2 : k ≤ 16) {l : List Int} (hl : Bit l) (hm : l.length ≤ 8192) {node many least : Int} (hn : Nd node) (hmm : many ≤ 300) (hle : 0 < least) (hle2 : least ≤ 300) {x x9 : Int × Int × Int} (hx : x.1 = many) {n : Nat} (hx9 : x9.1 = (n : Int)) (hn3 : n ≤ 300) :
    ∀ (j i p : Nat) (out : List Int) (e : Int), n < j + i → i ≤ n → (out.length : Int) ≤ many → p ≤ l.length → (0 < i → 0 ≤ e ∧ e ≤ 2000000) → (i = 0 → e = node) →
    qI F l node least (k : Int) x x9 j ((p : Int), out, e, (i : Int)) = some (gRn l k node least many (n - i) (decide (0 < i)) e out p)
  | 0, _, _, _, _, _, _, _, _, _, _ => by omega
  | j + 1, i, p, out, e, h, hi, ho, hp, he, he0 => by
    show qag F l node least (k : Int) x x9 (qI F l node least (k : Int) x x9 j) (p : Int) out e (i : Int) = _
    unfold qag
    have heb : 0 ≤ e ∧ e ≤ 2000000 := by
      by_cases h0 : 0 < i
      · exact he h0
      · have := he0 (by omega)
        have := hn.1; have := hn.2
        omega
    rw [hx9]
    by_cases hlt : i < n
    · rw [if_pos (by simpa using hlt), show n - i = (n - (i + 1)) + 1 from by omega]
      simp only [gRn]
      refine qgH (most := 4194304) (by omega) hl hm hp (fun g hg => ?_) (fun g hg g0 g1 g2 g3 => ?_)
      · rw [if_pos (by simpa using hg)]
      · simp only
        rw [if_neg (by simp; omega)]
        refine qgH (most := 1000) (by omega) hl hm g3 (fun y hy => ?_) (fun y hy y0 y1 y2 y3 => ?_)
        · rw [if_pos (by simpa using hy)]
        · simp only
          rw [if_neg (by simp; omega)]
          have eg : iconv .i64 g.1 = g.1 := q4 (by omega) (by omega)
          unfold lett
          rw [eg, qr (a := e) (by omega) (by omega), qr (a := e + g.1) (by omega) (by omega)]
          have hstep : ∀ f : Int, f = gFst (decide (0 < i)) e node g.1 → vt F (qI F l node least (k : Int) x x9 j) least x out (i : Int) (y.1, (y.2 : Int), 0) f = some (if gFst (decide (0 < i)) e node g.1 < 0 ∨ 1048576 < gFst (decide (0 < i)) e node g.1 then ([], false) else
              if many < ((out ++ rng (gFst (decide (0 < i)) e node g.1) (y.1 + least).toNat).length : Int) then ([], false)
              else gRn l k node least many (n - (i + 1)) true (gFst (decide (0 < i)) e node g.1 + y.1 + least - 1) (out ++ rng (gFst (decide (0 < i)) e node g.1) (y.1 + least).toNat) y.2) := by
            intro f hf
            rw [← hf]
            unfold vt
            by_cases hc : f < 0 ∨ 1048576 < f
            · rw [if_pos (by simpa using hc), if_pos hc]
            · rw [if_neg (by simpa using hc), if_neg hc]
              have hr := qsN (F := F) (rec64 := qI F l node least (k : Int) x x9 j) (least := least) (i := (i : Int)) (f := f) (x := x) (x2 := (y.1, (y.2 : Int), 0)) (out := out) y0 y1 (by omega) hle2 (by omega) (by omega) (by omega) F 0 (by simp only; omega) (Nat.zero_le _)
              have hr' : ku F (qI F l node least (k : Int) x x9 j) least x (i : Int) (y.1, (y.2 : Int), 0) f F (out, 0) = vu F (qI F l node least (k : Int) x x9 j) least x (i : Int) (y.1, (y.2 : Int), 0) f (out ++ rng f (y.1 + least).toNat) := by
                have e0 : out ++ rng f 0 = out := by simp [rng]
                rw [e0] at hr
                exact hr
              rw [hr']
              unfold vu lett
              have em : iconv .i64 many = many := q4 (by omega) (by omega)
              have ey : iconv .i64 y.1 = y.1 := q4 (by omega) (by omega)
              simp only
              rw [hx, em, ey]
              by_cases hc2 : many < ((out ++ rng f (y.1 + least).toNat).length : Int)
              · rw [if_pos (by simpa using hc2), if_pos hc2]
              · rw [if_neg (by simpa using hc2), if_neg hc2]
                unfold qce
                rw [qlm (by omega) (by omega), qr (a := f) (by omega) (by omega), qr (a := f + y.1) (by omega) (by omega), qx (by omega) (by omega), show ((i : Int) + 1) = ((i + 1 : Nat) : Int) from by omega]
                rw [qpT hF h1 h2 hl hm hn hmm hle hle2 hx hx9 hn3 j (i + 1) y.2 _ _ (by omega) (by omega) (by omega) y3 (fun _ => by omega) (fun h => by omega)]
                rw [decide_eq_true (show 0 < i + 1 from by omega)]
          refine Eq.trans ?_ (hstep _ rfl)
          show (if ((i : Int) == 0) = true then _ else _) = _
          by_cases h0 : i = 0
          · rw [if_pos (by simp [h0]), qrG (e := e) hn ⟨g0, by omega⟩, show decide (0 < i) = false from by simp [h0]]
            rfl
          · rw [if_neg (by simp; omega), decide_eq_true (show 0 < i from by omega)]
            rfl
    · rw [if_neg (by simpa using hlt), show n - i = 0 from by omega]
      exact qn1 hF h1 h2 hl hm hn ho hmm hp hx
theorem qpS {F k : Nat} (hF : 2000000 ≤ F) (h1 : 1 ≤ k) (h2 : k ≤ 16) {l : List Int} (hl : Bit l) (hm : l.length ≤ 8192) {node many least : Int} (hn : Nd node) {out : List Int} (ho : (out.length : Int) ≤ many) (hmm : many ≤ 300) (_hle : 0 ≤ least) (hle2 : least ≤ 300) {p : Nat} (hp : p ≤ l.length) {x : Int × Int × Int} (hx : x.1 = many) :
    vq F l node least (k : Int) x (p : Int) out = some (gG2 l k node least many out p) := by
  unfold vq gG2
  have em : iconv .i64 many = many := q4 (by omega) (by omega)
  rw [hx, em]
  by_cases h0 : (out.length : Int) = many
  · rw [if_pos (by simpa using h0), if_pos h0]
  · rw [if_neg (by simpa using h0), if_neg h0]
    by_cases h3 : 0 < least
    · rw [if_pos (by simpa using h3), if_pos h3]
      refine qgH (most := 300) (by omega) hl hm hp (fun g hg => ?_) (fun g hg g0 g1 g2 g3 => ?_)
      · rw [if_pos (by simpa using hg)]
      · simp only
        rw [if_neg (by simp; omega)]
        have := qpT hF h1 h2 hl hm hn hmm h3 hle2 hx (x9 := (g.1, (g.2 : Int), 0)) (n := g.1.toNat) (by simp only; omega) (by omega) F 0 g.2 out node (by omega) (Nat.zero_le _) ho g3 (fun h => by omega) (fun _ => rfl)
        exact this
    · rw [if_neg (by simpa using h3), if_neg h3]
      exact qn1 hF h1 h2 hl hm hn ho hmm hp hx
theorem qpQ {F k : Nat} (hF : 2000000 ≤ F) {l : List Int} (hl : Bit l) (hm : l.length ≤ 8192) {node least : Int} {fr : List Int} {x x9 : Int × Int × Int} {n : Nat} (hx9 : x9.1 = (n : Int)) (hn3 : n ≤ 400) :
    ∀ (j i p : Nat) (bs : List Int), n < j + i → i ≤ n → bs.length = i → p ≤ l.length →
    zY F l node fr least (k : Int) x x9 j ((p : Int), bs, (i : Int)) = match rbl l 1000 (n - i) (decide (0 < i)) p with | none => some ([], false) | some b => vv F l node fr least (k : Int) x (b.2 : Int) (bs ++ b.1)
  | 0, _, _, _, _, _, _, _ => by omega
  | j + 1, i, p, bs, h, hi, hb, hp => by
    show qai F l node fr least (k : Int) x x9 (zY F l node fr least (k : Int) x x9 j) (p : Int) bs (i : Int) = _
    unfold qai
    rw [hx9]
    by_cases hlt : i < n
    · rw [if_pos (by simpa using hlt), show n - i = (n - (i + 1)) + 1 from by omega, qe2 (by omega) hl hm hp]
      simp only [Option.bind_some, rbl]
      cases hr : rgam l p 1000 with
      | none =>
        rw [if_pos (by
          unfold rgam at hr
          split at hr
          · simp at hr
          · rename_i hc
            simp only [Bool.or_eq_true, bne_iff_ne, ne_eq, decide_eq_true_eq]
            by_cases h9 : (fg l p).2.2 = 0
            · right
              have := fun h8 => hc ⟨h9, h8⟩
              omega
            · left; exact h9)]
        rfl
      | some g =>
        have hok := yY hr
        have hfg : fg l p = (g.1, (g.2 : Int), 0) := by
          unfold rgam at hr
          split at hr
          · rename_i hc
            simp only [Option.some.injEq] at hr
            rw [← hr]
            have h3 : 0 ≤ (fg l p).2.1 := by
              rcases qjx (l := l) (a := p) with h1 | ⟨n, q, h1, h2, h3⟩
              · exact absurd hc.1 h1
              · rw [h1]; simp
            simp only
            rw [Int.toNat_of_nonneg h3, ← hc.1]
          · simp at hr
        rw [hfg]
        simp only [Option.bind_some]
        rw [if_neg (by simp; omega)]
        have hst : ∀ y : Int, 0 ≤ y → y ≤ 2000 → vw F (zY F l node fr least (k : Int) x x9 j) bs (i : Int) (g.1, (g.2 : Int), 0) y = match rbl l 1000 (n - (i + 1)) true g.2 with | none => some ([], false) | some b => vv F l node fr least (k : Int) x (b.2 : Int) (bs ++ y :: b.1) := by
          intro y y0 y1
          unfold vw
          have ey : iconv .i64 y = y := q4 (by omega) (by omega)
          rw [ey, qQ (by simp; omega)]
          simp only [Option.bind_some]
          rw [qlm (by omega) (by omega), show ((i : Int) + 1) = ((i + 1 : Nat) : Int) from by omega]
          rw [qpQ hF hl hm hx9 hn3 j (i + 1) g.2 _ (by omega) (by omega) (by simp [hb]) hok.2.2.2, decide_eq_true (show 0 < i + 1 from by omega)]
          cases rbl l 1000 (n - (i + 1)) true g.2 with
          | none => rfl
          | some b => simp
        by_cases h0 : 0 < i
        · rw [if_pos (by simpa using h0), qlm (by omega) (by omega), hst _ (by omega) (by omega), decide_eq_true h0]
          simp only [if_true]
          cases rbl l 1000 (n - (i + 1)) true g.2 with
          | none => rfl
          | some b => rfl
        · rw [if_neg (by simpa using h0), hst _ (by omega) (by omega), decide_eq_false h0]
          simp only [Bool.false_eq_true, if_false, Int.add_zero]
          cases rbl l 1000 (n - (i + 1)) true g.2 with
          | none => rfl
          | some b => rfl
    · rw [if_neg (by simpa using hlt), show n - i = 0 from by omega]
      simp [rbl]
theorem qtv {F k : Nat} (hF : 2000000 ≤ F) (h1 : 1 ≤ k) (h2 : k ≤ 16) {l : List Int} (hl : Bit l) (hm : l.length ≤ 8192) {node back least : Int} (hn : Nd node) (hle : 0 ≤ least) (hle2 : least ≤ 300) {fr : List Int} (hfr : 0 < back → gkc fr = 0) {p : Nat} (hp : p ≤ l.length) :
    qcY F l (p : Int) node fr back least (k : Int) = some (gG l p node fr back least k) := by
  unfold qcY gG
  refine qgH (most := 300) (by omega) hl hm hp (fun g hg => ?_) (fun m hg m0 m1 m2 m3 => ?_)
  · rw [if_pos (by simpa using hg)]
  · simp only
    rw [if_neg (by simp; omega)]
    by_cases h0 : m.1 = 0
    · rw [if_pos (by simpa using h0), if_pos h0]
    · rw [if_neg (by simpa using h0), if_neg h0]
      by_cases hb : 0 < back
      · have hfl := (zA.1 (hfr hb)).1
        rw [if_pos (by simpa using hb), if_pos hb]
        have ef : iconv .u64 (iadd .i64 (fr.length : Int) 1) = (fr.length : Int) + 1 := by
          rw [qr (by omega) (by omega)]
          exact zP (n := fr.length + 1) (by omega)
        refine qgH (most := (fr.length : Int) + 1) (by omega) hl hm m3 (fun g hg => ?_) (fun n hg n0 n1 n2 n3 => ?_)
        · rw [ef, if_pos (by simpa using hg)]
        · simp only
          rw [ef, if_neg (by simp; omega)]
          have := qpQ (F := F) (k := k) hF hl hm (node := node) (least := least) (fr := fr) (x := (m.1, (m.2 : Int), 0)) (x9 := (n.1, (n.2 : Int), 0)) (n := n.1.toNat) (by simp only; omega) (by omega) F 0 n.2 [] (by omega) (Nat.zero_le _) rfl n3
          refine Eq.trans this ?_
          rw [Nat.sub_zero, show decide (0 < 0) = false from rfl]
          cases hr : rbl l 1000 n.1.toNat false n.2 with
          | none => rfl
          | some b =>
            have hbl := qk9 n3 hr
            simp only [List.nil_append]
            unfold vv
            rw [qqu (by omega)]
            simp only [Option.bind_some]
            have em : iconv .i64 m.1 = m.1 := q4 (by omega) (by omega)
            rw [em]
            by_cases hc : (cpy fr b.1).2 = 0 ∧ ((cpy fr b.1).1.length : Int) ≤ m.1
            · rw [if_neg (by simp; exact ⟨hc.1, by omega⟩), if_pos hc]
              exact qpS hF h1 h2 hl hm hn hc.2 (by omega) hle hle2 hbl.2 rfl
            · rw [if_neg hc, if_pos (by
                simp only [Bool.or_eq_true, bne_iff_ne, ne_eq, decide_eq_true_eq]
                by_cases h9 : (cpy fr b.1).2 = 0
                · right
                  have := fun h8 => hc ⟨h9, h8⟩
                  omega
                · left; exact h9)]
      · rw [if_neg (by simpa using hb), if_neg hb]
        exact qpS hF h1 h2 hl hm hn (by simp; omega) (by omega) hle hle2 m3 rfl
theorem qon {F : Nat} {xs ys : List Int} (he : xs.length = ys.length) (hm : xs.length ≤ 1000000) : ∀ (k i : Nat), xs.length < k + i → i ≤ xs.length → kI F xs ys k (i : Int) = some (decide (xs.drop i = ys.drop i))
  | 0, _, _, _ => by omega
  | k + 1, i, h, hi => by
    show va F xs ys (kI F xs ys k) (i : Int) = _
    unfold va
    by_cases hlt : i < xs.length
    · have hlt' : i < ys.length := by omega
      rw [if_pos (by simp; omega), qs, List.getElem?_eq_getElem hlt, qs, List.getElem?_eq_getElem hlt']
      simp only [Option.bind_some]
      rw [List.drop_eq_getElem_cons hlt, List.drop_eq_getElem_cons hlt']
      by_cases hc : xs[i] = ys[i]
      · rw [if_neg (by simp [hc]), qn (by omega), qon he hm k (i + 1) (by omega) (by omega)]
        congr 1
        rw [decide_eq_decide, List.cons.injEq]
        exact ⟨fun h => ⟨hc, h⟩, fun h => h.2⟩
      · rw [if_pos (by simpa using hc), decide_eq_false (fun e => hc (List.cons.inj e).1)]
    · rw [if_neg (by simp; omega), List.drop_eq_nil_of_le (by omega), List.drop_eq_nil_of_le (by omega)]
      rfl
theorem qcH {F : Nat} {xs ys : List Int} (hF : xs.length < F) (hm : xs.length ≤ 1000000) : kV F xs ys = some (decide (xs = ys)) := by
  unfold kV
  by_cases h : xs.length = ys.length
  · rw [if_neg (by simp [h])]
    have := qon (F := F) h hm F 0 (by omega) (Nat.zero_le _)
    rw [List.drop_zero, List.drop_zero] at this
    exact this
  · rw [if_pos (by simp; omega), decide_eq_false (fun e => h (by rw [e]))]
theorem ql0 {k : Nat} (h1 : 1 ≤ k) (h2 : k ≤ 16) {node q : Int} (hn : Nd node) {S out x : List Int} (hS : Ris q S) (hx : gkc x = 0) (hp : (out ++ S).Perm x) (P T : List Int) :
    gGap (P ++ (zes k (gp false node S) ++ T)) k node x.length out P.length = (x, true) := by
  have hlen2 := hp.length_eq
  rw [List.length_append] at hlen2
  unfold gGap
  rw [show ((x.length : Int) - out.length).toNat = (gp false node S).length from by rw [qha]; omega]
  have h40 : L40 (gp false node S) := fun z hz => by have := qjB hn hS (by simp) z hz; omega
  have := qkP h1 h2 P T h40 (qpB (b := false) hn hS (by simp))
  rw [List.append_assoc] at this
  rw [this]
  simp only
  rw [qfC hp (qin (qfq hx))]
theorem qn2 {node least many : Int} {k : Nat} (hle : 0 ≤ least) (hmm : many ≤ 300) : ∀ (R : List (Int × Int)) (b : Bool) (a q : Int) (out P T : List Int), (∀ r ∈ R, RunOk r ∧ least ≤ r.2) → Nd a → Sep q R → (b = true → a + 1 ≤ q) → (b = false → a = node) → ((out.length : Int) + (flat R).length ≤ many) →
    gRn (P ++ (encRs least b a R ++ T)) k node least many R.length b a out P.length = gGap (P ++ (encRs least b a R ++ T)) k node many (out ++ flat R) (P.length + (encRs least b a R).length)
  | [], _, _, _, _, P, T, _, _, _, _, _, _ => by simp [gRn, encRs, flat]
  | r :: R, b, a, q, out, P, T, hR, ha, hs, hb, hb0, ho => by
    obtain ⟨hro, hrl⟩ := hR r (by simp)
    obtain ⟨s1, s2, s3⟩ := hs
    unfold RunOk at hro
    have ha' := ha
    unfold Nd at ha'
    have hf := qdV (x := r.1 - a) (by omega)
    have hf2 : foldOf (r.1 - a) ≤ 2097152 := by unfold foldOf; split <;> omega
    have hv : 0 ≤ (if b = true then r.1 - a - 2 else foldOf (r.1 - a)) ∧ (if b = true then r.1 - a - 2 else foldOf (r.1 - a)) ≤ 2097152 := by
      cases b with
      | false => simp; omega
      | true => have := hb rfl; simp; omega
    rw [zp, List.length_append, yk] at ho
    unfold encRs
    simp only [List.length_cons, gRn, List.append_assoc]
    rw [qgS hv.1 (by omega) (by omega)]
    simp only
    have e1 := qgS (n := r.2 - least) (most := 1000) (by omega) (by omega) (by omega) (P ++ ga (if b = true then r.1 - a - 2 else foldOf (r.1 - a)).toNat) (encRs least true (r.1 + r.2 - 1) R ++ T)
    simp only [List.append_assoc, List.length_append] at e1
    rw [e1]
    simp only
    have e2 : gFst b a node (if b = true then r.1 - a - 2 else foldOf (r.1 - a)) = r.1 := by
      unfold gFst
      cases b with
      | false =>
        have := hb0 rfl
        subst this
        simp only [Bool.false_eq_true, if_false]
        have : st false a (foldOf (r.1 - a)) = some r.1 := by
          unfold st
          rw [if_neg (by omega)]
          simp only [Bool.false_eq_true, if_false]
          rw [qfG, show a + (r.1 - a) = r.1 from by omega, if_pos (show Nd r.1 from hro.1)]
        rw [this]
      | true => simp only [if_true]; omega
    rw [e2, show r.2 - least + least = r.2 from by omega, show r.1 + (r.2 - least) + least - 1 = r.1 + r.2 - 1 from by omega]
    rw [if_neg (by omega), if_neg (by rw [List.length_append, yk]; omega)]
    have := qn2 (node := node) (k := k) hle hmm R true (r.1 + r.2 - 1) (r.1 + r.2) (out ++ rng r.1 r.2.toNat) ((P ++ ga (if b = true then r.1 - a - 2 else foldOf (r.1 - a)).toNat) ++ ga (r.2 - least).toNat) T (fun z hz => hR z (by simp [hz])) (by unfold Nd; omega) s3 (fun _ => by omega) (fun h => by simp at h) (by rw [List.length_append, yk]; omega)
    simp only [List.append_assoc, List.length_append] at this
    rw [show P.length + (ga (if b = true then r.1 - a - 2 else foldOf (r.1 - a)).toNat).length + (ga (r.2 - least).toNat).length = P.length + ((ga (if b = true then r.1 - a - 2 else foldOf (r.1 - a)).toNat).length + (ga (r.2 - least).toNat).length) from by omega, this]
    simp only [List.length_append, zp]
    congr 1
    omega
theorem qn0 {k : Nat} (h1 : 1 ≤ k) (h2 : k ≤ 16) {node least : Int} (hn : Nd node) (_hle : least = 0 ∨ 2 ≤ least ∧ least ≤ 300) {rest out x : List Int} (hr : gkc rest = 0) (hx : gkc x = 0) (ho : out.Pairwise (· ≤ ·)) (hp : (out ++ rest).Perm x) (P T : List Int) :
    gG2 (P ++ (encL node rest least k ++ T)) k node least x.length out P.length = (x, true) := by
  have hlen2 := hp.length_eq
  have hxm := (zA.1 hx).1
  obtain ⟨hrm, hrs⟩ := zA.1 hr
  rw [List.length_append] at hlen2
  unfold gG2 encL
  by_cases h0 : rest = []
  · subst h0
    simp only [List.length_nil, Nat.add_zero] at hlen2
    rw [if_pos (by omega)]
    rw [List.append_nil] at hp
    have e1 := qfC hp (qin (qfq hx))
    have e2 := qfC (List.Perm.refl out) ho
    rw [e2] at e1
    rw [e1]
  · have hl0 : rest.length ≠ 0 := by simpa using h0
    rw [if_neg (by omega), if_neg h0]
    obtain ⟨e1, e2, e3, e4⟩ := qhK (least := least) hr
    by_cases hl : 0 < least
    · have hlen := e3.length_eq
      rw [List.length_append] at hlen
      obtain ⟨r1, r2⟩ := qjR hrm hrs
      have hO : encO rest least = spO least (rs rest) := by unfold encO; rw [if_pos hl]
      have hsep : Sep (-1) (encO rest least) := by rw [hO]; exact qb0 _ r1
      have hfl := qeF hsep
      rw [if_pos hl, if_pos hl]
      unfold encR
      simp only [List.append_assoc]
      rw [qei (by omega) (by omega)]
      simp only [Int.toNat_natCast]
      have := qn2 (k := k) (node := node) (least := least) (many := (x.length : Int)) (by omega) (by omega) (encO rest least) false node (-1) out (P ++ ga (encO rest least).length) (zes k (gp false node (encS rest least)) ++ T) (fun r hrr => by rw [hO] at hrr; exact ⟨r2 r (List.mem_filter.1 hrr).1, by simpa using (List.mem_filter.1 hrr).2⟩) hn hsep (fun h => by simp at h) (fun _ => rfl) (by omega)
      simp only [List.append_assoc, List.length_append] at this
      rw [this]
      have hpx : ((out ++ flat (encO rest least)) ++ encS rest least).Perm x := by
        rw [List.append_assoc]
        exact (List.Perm.append_left out e3).trans hp
      have := ql0 h1 h2 hn e2 hx hpx (P ++ (ga (encO rest least).length ++ encRs least false node (encO rest least))) T
      simp only [List.append_assoc, List.length_append] at this
      rw [Nat.add_assoc]
      exact this
    · have hO : encO rest least = [] := by unfold encO; rw [if_neg hl]
      rw [if_neg hl, if_neg hl, List.nil_append]
      rw [hO] at e3
      exact ql0 h1 h2 hn e2 hx ((List.Perm.append_left out e3).trans hp) P T
theorem qsV {k : Nat} (h1 : 1 ≤ k) (h2 : k ≤ 16) {node back least : Int} {x fr : List Int} (hn : Nd node) (hle : least = 0 ∨ 2 ≤ least ∧ least ≤ 300) (hx : gkc x = 0) (hfr : 0 < back → gkc fr = 0) (P T : List Int) :
    gG (P ++ (enc node x fr back least k ++ T)) P.length node fr back least k = (x, true) := by
  have hxm := (zA.1 hx).1
  unfold gG enc rstO
  rw [List.append_assoc, qei (by omega) (by omega)]
  simp only
  by_cases h0 : x = []
  · subst h0
    rw [if_pos (by simp)]
  · have hx0 : x.length ≠ 0 := by simpa using h0
    rw [if_neg (by omega), if_neg h0]
    by_cases hb : 0 < back
    · have hfg := hfr hb
      have hfl := (zA.1 hfg).1
      rw [if_pos hb, if_pos hb, if_pos hb]
      have htl := qfX fr x
      have hok : okB true (tbs fr x) = true := qft _ _ _ _ (by omega) (Or.inl rfl)
      have hsum : bsum (tbs fr x) ≤ 0 + (fr.map (hasB x)).length := qed _ _ _ (by omega)
      rw [List.length_map] at hsum
      have e0 := qei (n := (tbs fr x).length) (most := (fr.length : Int) + 1) (by omega) (by omega) (P ++ ga x.length) (encBs false (tbs fr x) ++ (encL node (rst fr x) least k ++ T))
      have e1 := qk8 (many := 1000) (by omega) (tbs fr x) false ((P ++ ga x.length) ++ ga (tbs fr x).length) (encL node (rst fr x) least k ++ T) hok (fun n hnm => by have := qfM hok n hnm; omega)
      unfold encB
      simp only [List.append_assoc, List.length_append] at e0 e1 ⊢
      rw [e0]
      simp only [Int.toNat_natCast]
      rw [Nat.add_assoc, e1]
      simp only
      rw [qnW hfg]
      have hbe := qmd hfg hx
      have hfx : (fr.filter (hasB x)).length ≤ x.length := by rw [hbe]; exact List.length_filter_le _ _
      rw [if_pos ⟨rfl, by simp only; omega⟩]
      have hperm : (fr.filter (hasB x) ++ rst fr x).Perm x := by rw [hbe]; exact qjy _ _
      have := qn0 h1 h2 hn hle (qgT hx) hx (qin ((qfq hfg).sublist List.filter_sublist)) hperm ((P ++ ga x.length) ++ (ga (tbs fr x).length ++ encBs false (tbs fr x))) T
      simp only [List.append_assoc, List.length_append] at this
      simp only [Nat.add_assoc]
      exact this
    · rw [if_neg hb, if_neg hb, if_neg hb, List.nil_append]
      have := qn0 h1 h2 hn hle hx hx (out := []) (by simp) (by simp) (P ++ ga x.length) T
      simp only [List.append_assoc, List.length_append] at this
      exact this
theorem qh9 {k : Nat} (h1 : 1 ≤ k) (h2 : k ≤ 16) {l : List Int} {p : Nat} (hp : p ≤ l.length) {node back least : Int} {x fr : List Int} (hn : Nd node) (hle : least = 0 ∨ 2 ≤ least ∧ least ≤ 300) (hx : gkc x = 0) (hfr : 0 < back → gkc fr = 0) (hs : (l.drop p).take (enc node x fr back least k).length = enc node x fr back least k) :
    gG l p node fr back least k = (x, true) ∧ rls l p node fr back least k = some (x, p + (enc node x fr back least k).length) := by
  have e : l = l.take p ++ (enc node x fr back least k ++ (l.drop p).drop (enc node x fr back least k).length) := by
    conv => lhs; rw [← List.take_append_drop p l, ← List.take_append_drop (enc node x fr back least k).length (l.drop p), hs]
  have hpl : (l.take p).length = p := by rw [List.length_take]; omega
  have a1 := qsV h1 h2 hn hle hx hfr (l.take p) ((l.drop p).drop (enc node x fr back least k).length)
  have a2 := qot h1 h2 hn hle hx hfr (l.take p) ((l.drop p).drop (enc node x fr back least k).length)
  rw [← e, hpl] at a1 a2
  exact ⟨a1, a2⟩
theorem qpb {F : Nat} (hF : 2000000 ≤ F) {m p node back least k : Int} {b fr : List Int} (hb : U8s b) : qa6 F m b p node fr back least k = some (sr m b p node fr back least k) := by
  have hj : jT F m b p node fr back least k (srE m b p node fr back least k) = some (sr m b p node fr back least k) := by
    unfold jT sr
    by_cases h : srE m b p node fr back least k = 0
    · rw [if_neg (by simp [h]), if_neg (by simp [h])]
      obtain ⟨h1, h2, h3⟩ := qtd h
      obtain ⟨k1, k2, k', rfl, k3, k4⟩ := qbZ h1
      obtain ⟨n1, n2⟩ := qqK h3
      rcases qqo hb (m := m) (a := p) with hx | ⟨l, i, hl, hlm, rfl, rfl, rfl, hi⟩
      · exact absurd h2 hx
      · have hbl : js F (l.length : Int) (pk l) = some l := by
          rw [qgk (by omega) (qeJ hl) (by rw [qe8]; omega) (by omega), qbg hl]
        rw [hbl]
        simp only [Option.bind_some, Int.toNat_natCast, qbg hl]
        rw [qtv hF k3 k4 hl hlm n1 (by omega) (by omega) n2 hi]
        simp only [Option.bind_some]
        cases hr : rdl l i node fr back least k' with
        | some r =>
          obtain ⟨r1, r2, r3, r4, r5⟩ := qgQ hl k3 hr
          have hg := (qh9 k3 k4 hi n1 k2 r1 n2 r4).1
          rw [hg]
          simp only
          rw [if_neg (by simp), qfQ (by omega)]
          simp only [Option.bind_some]
          unfold vb
          rw [if_neg (by simp [r1]), qhi hF k3 k4 n1 r1 n2]
          simp only [Option.bind_some]
          rw [qx (by omega) (by omega), if_neg (by simp; omega), qr (by omega) (by omega), show ((i : Int) + ((enc node r.1 fr back least k').length : Int)) = ((i + (enc node r.1 fr back least k').length : Nat) : Int) from by omega, qgZ (by omega) (by omega)]
          simp only [Option.bind_some]
          rw [show (l.take (i + (enc node r.1 fr back least k').length)).drop i = enc node r.1 fr back least k' from by rw [List.drop_take, Nat.add_sub_cancel_left]; exact r4]
          rw [qix (by omega) (by omega)]
          simp only [Option.bind_some, Bool.not_true]
          unfold jU
          rw [if_neg (by simp), qr (by omega) (by omega), ← r3]
          congr 3
        | none =>
          simp only
          have hno : ∀ x : List Int, gkc x = 0 → (enc node x fr back least k').length ≤ 8192 → (l.drop i).take (enc node x fr back least k').length ≠ enc node x fr back least k' := by
            intro x hx hxl hs
            have h9 := (qh9 k3 k4 hi n1 k2 hx n2 hs).2
            unfold rdl at hr
            rw [h9] at hr
            simp only [Option.bind_some] at hr
            rw [if_pos ⟨hx, hxl, trivial, hs⟩] at hr
            simp at hr
          by_cases hg : (gG l i node fr back least k').2 = true
          · rw [if_neg (by simp [hg]), qfQ (by omega)]
            simp only [Option.bind_some]
            unfold vb
            by_cases hx : gkc (gG l i node fr back least k').1 = 0
            · rw [if_neg (by simp [hx]), qhi hF k3 k4 n1 hx n2]
              simp only [Option.bind_some]
              rw [qx (by omega) (by omega)]
              unfold jU
              by_cases hc : ((l.length : Int) - (i : Int)) < ((enc node (gG l i node fr back least k').1 fr back least k').length : Int)
              · rw [if_pos (by simpa using hc), if_pos rfl]
              · rw [if_neg (by simpa using hc), qr (by omega) (by omega), show ((i : Int) + ((enc node (gG l i node fr back least k').1 fr back least k').length : Int)) = ((i + (enc node (gG l i node fr back least k').1 fr back least k').length : Nat) : Int) from by omega, qgZ (by omega) (by omega)]
                simp only [Option.bind_some]
                have hne := hno _ hx (by omega)
                rw [qcH (by simp; omega) (by simp; omega), decide_eq_false (by
                  rw [List.drop_take, Nat.add_sub_cancel_left]; exact hne)]
                simp only [Option.bind_some, Bool.not_false]
                rw [if_pos (by trivial)]
            · rw [if_pos (by simpa using hx)]
          · rw [if_pos (by simpa using hg)]
            unfold vb
            rw [if_pos rfl]
    · rw [if_pos (by simpa using h), if_pos h]
  unfold qa6
  rw [qlb]
  simp only [Option.bind_some]
  by_cases h1 : hcE back least k = 0
  · rw [if_pos (by simpa using h1), qnk (by omega) hb]
    simp only [Option.bind_some]
    unfold jS
    by_cases h2 : raOf m b p = 0
    · have e : srE m b p node fr back least k = scE node fr back := by unfold srE; rw [if_neg (by simp [h1]), if_neg (by simp [h2])]
      rw [if_pos (by simpa using h2), qqF (by omega), ← e]
      exact hj
    · have e : srE m b p node fr back least k = raOf m b p := by unfold srE; rw [if_neg (by simp [h1]), if_pos h2]
      rw [if_neg (by simpa using h2), ← e]
      exact hj
  · have e : srE m b p node fr back least k = hcE back least k := by unfold srE; rw [if_pos h1]
    rw [if_neg (by simpa using h1)]
    unfold jS
    rw [if_neg (by simpa using h1), ← e]
    exact hj
theorem qjv : ∀ (bs : List Int) (b : Bool), (∀ n ∈ bs, n ≤ 1000000) → (encBs b bs).length ≤ 81 * bs.length
  | [], _, _ => by simp [encBs]
  | n :: bs, b, hn => by
    have h3 := qjv bs true (fun y hy => hn y (by simp [hy]))
    have h4 := hn n (by simp)
    have h5 := qct (n := (n - if b then 1 else 0).toNat) (by split <;> omega)
    simp only [encBs, List.length_append, List.length_cons]
    omega
theorem qjw {least : Int} (hle : 0 ≤ least) : ∀ (R : List (Int × Int)) (b : Bool) (a : Int), (∀ r ∈ R, RunOk r) → -2000 ≤ a ∧ a ≤ 1100000 → (encRs least b a R).length ≤ 162 * R.length
  | [], _, _, _, _ => by simp [encRs]
  | r :: R, b, a, hR, ha => by
    have hr := hR r (by simp)
    unfold RunOk at hr
    have h3 := qjw hle R true (r.1 + r.2 - 1) (fun z hz => hR z (by simp [hz])) (by omega)
    have hf := qdV (x := r.1 - a) (by omega)
    have h4 := qct (n := (if b then r.1 - a - 2 else foldOf (r.1 - a)).toNat) (by split <;> omega)
    have h5 := qct (n := (r.2 - least).toNat) (by omega)
    simp only [encRs, List.length_append, List.length_cons]
    omega
theorem qrC {node back least : Int} {x fr : List Int} {k : Nat} (hk : k ≤ 16) (hn : Nd node) (hx : gkc x = 0) (hfr : gkc fr = 0) (hle : 0 ≤ least) : (enc node x fr back least k).length ≤ 300000 := by
  obtain ⟨hm, hs⟩ := zA.1 hx
  have hfl := (zA.1 hfr).1
  unfold enc
  have g1 := qct (n := x.length) (by omega)
  have hn' := hn
  unfold Nd at hn'
  rw [List.length_append]
  by_cases h0 : x = []
  · rw [if_pos h0]; simp; omega
  · rw [if_neg h0, List.length_append]
    have hB : (if 0 < back then encB (tbs fr x) else []).length ≤ 30000 := by
      split
      · have htl := qfX fr x
        have hok : okB true (tbs fr x) = true := qft _ _ _ _ (by omega) (Or.inl rfl)
        have hsum : bsum (tbs fr x) ≤ 0 + (fr.map (hasB x)).length := qed _ _ _ (by omega)
        rw [List.length_map] at hsum
        have h1 := qjv (tbs fr x) false (fun n hnm => by have := qfM hok n hnm; omega)
        have h2 := qct (n := (tbs fr x).length) (by omega)
        unfold encB
        rw [List.length_append]
        omega
      · simp
    have hr : gkc (rstO x fr back) = 0 := by
      unfold rstO
      split
      · exact qgT hx
      · exact hx
    obtain ⟨hrm, hrs⟩ := zA.1 hr
    have hL : (encL node (rstO x fr back) least k).length ≤ 200000 := by
      unfold encL
      split
      · simp
      · rw [List.length_append]
        obtain ⟨s1, s2⟩ := qle (least := least) hrm hrs
        obtain ⟨r1, r2⟩ := qjR hrm hrs
        have e2 := (qhK (least := least) hr).2.1
        have hz := qlt hk (g := gp false node (encS (rstO x fr back) least)) (fun z hz => by have := qjB hn e2 (by simp) z hz; omega)
        rw [qha] at hz
        have hS : (encS (rstO x fr back) least).length ≤ 300 := by unfold encS; split <;> omega
        have hR : (if 0 < least then encR least node (encO (rstO x fr back) least) else []).length ≤ 60000 := by
          by_cases hl : 0 < least
          · rw [if_pos hl]
            unfold encR encO
            rw [if_pos hl, List.length_append]
            have h1 := qjw hle (spO least (rs (rstO x fr back))) false node (fun r hrr => r2 r (List.mem_filter.1 hrr).1) (by omega)
            have h2 := qct (n := (spO least (rs (rstO x fr back))).length) (by omega)
            omega
          · rw [if_neg hl]; simp
        omega
    omega
theorem qk3 {g : List (List Int)} (hg : Gr g) {B least : Int} {k i r : Nat} (hh : hcE B least (k : Int) = 0) (hi : i ≤ 100) (hr : r ≤ 100) : (pkW g B least k i r).length ≤ 301000 := by
  obtain ⟨k1, k2, k', hk, k3, k4⟩ := qbZ hh
  have := qrC (node := (i : Int)) (back := (r : Int)) (least := least) (x := g.getD i []) (fr := pkF g i r) (k := k) (by omega) (by unfold Nd; omega) (qhb hg i) (qhL hg i r) (by omega)
  have h2 := qct (n := r) (by omega)
  unfold pkW pkH
  rw [List.length_append]
  split
  · omega
  · simp only [List.length_nil]; omega
def bsr (f : Nat → List Int) (j : Nat) : Int × List Int := if j = 0 then (-1, []) else (((bwy f (j - 1)).1 : Int), (bwy f (j - 1)).2)
theorem qow {F : Nat} (hF : 2000000 ≤ F) {g : List (List Int)} (hg : Gr g) {B least : Int} {k i : Nat} (hh : hcE B least (k : Int) = 0) (hi : i < g.length) : ∀ (n j : Nat), min B.toNat i + 1 < n + j → j ≤ min B.toNat i + 1 →
    zm F g (i : Int) B least (k : Int) n ((bsr (pkW g B least k i) j).1, (bsr (pkW g B least k i) j).2, (j : Int)) = some (((pkN g B least k i).1 : Int), (pkN g B least k i).2)
  | 0, _, _, _ => by omega
  | n + 1, j, h, hj => by
    have hgl := hg.1
    obtain ⟨k1, k2, k', hk, k3, k4⟩ := qbZ hh
    have hkk : k = k' := by omega
    subst hkk
    show qaV F g (i : Int) B least (k : Int) (zm F g (i : Int) B least (k : Int) n) (bsr (pkW g B least k i) j).1 (bsr (pkW g B least k i) j).2 (j : Int) = _
    unfold qaV
    by_cases hlt : j < min B.toNat i + 1
    · rw [if_pos (by simp; omega)]
      have hrec := qow hF hg hh hi n (j + 1) (by omega) (by omega)
      have hlen := qk3 hg (B := B) (least := least) (k := k) (i := i) (r := j) hh (by omega) (by omega)
      have hW : ∀ H : List Int, H = pkH B j → ja F (zm F g (i : Int) B least (k : Int) n) g (i : Int) least (k : Int) (bsr (pkW g B least k i) j).1 (bsr (pkW g B least k i) j).2 (j : Int) H = some (((pkN g B least k i).1 : Int), (pkN g B least k i).2) := by
        intro H hH
        have h33 : jb F (zm F g (i : Int) B least (k : Int) n) g (i : Int) least (k : Int) (bsr (pkW g B least k i) j).1 (bsr (pkW g B least k i) j).2 (j : Int) H (pkF g i j) = some (((pkN g B least k i).1 : Int), (pkN g B least k i).2) := by
          unfold jb
          rw [qfp hi]
          simp only [Option.bind_some]
          rw [qhi hF k3 k4 (by unfold Nd; omega) (qhb hg i) (fun _ => qhL hg i j)]
          simp only [Option.bind_some]
          have e : H ++ enc (i : Int) (g.getD i []) (pkF g i j) (j : Int) least k = pkW g B least k i j := by rw [hH]; rfl
          rw [qQ (by rw [← List.length_append, e]; omega)]
          simp only [Option.bind_some]
          rw [e]
          unfold qaW
          rw [qn (by omega)]
          by_cases h0 : j = 0
          · subst h0
            rw [if_pos (by simp [bsr]), ← hrec]
            rfl
          · obtain ⟨q, rfl⟩ : ∃ q, j = q + 1 := ⟨j - 1, by omega⟩
            have eb : bsr (pkW g B least k i) (q + 1) = (((bwy (pkW g B least k i) q).1 : Int), (bwy (pkW g B least k i) q).2) := by
              unfold bsr; rw [if_neg (by omega), Nat.add_sub_cancel]
            have eb2 : bsr (pkW g B least k i) (q + 1 + 1) = (((bwy (pkW g B least k i) (q + 1)).1 : Int), (bwy (pkW g B least k i) (q + 1)).2) := by
              unfold bsr; rw [if_neg (by omega), Nat.add_sub_cancel]
            rw [eb2] at hrec
            rw [eb]
            simp only
            by_cases hc : (pkW g B least k i (q + 1)).length < (bwy (pkW g B least k i) q).2.length
            · rw [if_pos (by simp; omega), ← hrec, bwy, if_pos hc]
            · rw [if_neg (by simp; omega), ← hrec, bwy, if_neg hc]
        unfold ja
        by_cases h0 : 0 < j
        · rw [if_pos (by simpa using h0), qx (by omega) (by omega), show ((i : Int) - (j : Int)) = ((i - j : Nat) : Int) from by omega, qfp (by omega)]
          simp only [Option.bind_some]
          have e : pkF g i j = g.getD (i - j) [] := by unfold pkF; rw [if_pos h0]
          rw [← e]
          exact h33
        · rw [if_neg (by simpa using h0)]
          have e : pkF g i j = [] := by unfold pkF; rw [if_neg h0]
          rw [← e]
          exact h33
      by_cases hB : 0 < B
      · rw [if_pos (by simpa using hB), zP (by omega), qe1 (by omega) (by omega)]
        simp only [Option.bind_some]
        exact hW _ (by unfold pkH; rw [if_pos hB])
      · rw [if_neg (by simpa using hB)]
        exact hW _ (by unfold pkH; rw [if_neg hB])
    · rw [if_neg (by simp; omega)]
      have : j = min B.toNat i + 1 := by omega
      subst this
      unfold qcx bsr pkN
      rw [if_neg (by omega), Nat.add_sub_cancel]
theorem qqA {F : Nat} (hF : 2000000 ≤ F) {g : List (List Int)} (hg : Gr g) {B least : Int} {k i : Nat} (hh : hcE B least (k : Int) = 0) (hi : i < g.length) : qeS F g (i : Int) B least (k : Int) = some (((pkN g B least k i).1 : Int), (pkN g B least k i).2) := by
  have hgl := hg.1
  exact qow hF hg hh hi F 0 (by omega) (Nat.zero_le _)
theorem qoj {g : List (List Int)} (hg : Gr g) {B least : Int} {k : Nat} (hh : hcE B least (k : Int) = 0) : ∀ i : Nat, i ≤ 100 → (pkA g B least k i).1.length ≤ 301000 * i
  | 0, _ => by simp [pkA]
  | i + 1, h => by
    have h1 := qoj hg hh i (by omega)
    obtain ⟨hr, hN⟩ := qhf (g := g) (B := B) (least := least) (k := k) (i := i)
    have h2 := qk3 hg (B := B) (least := least) (k := k) (i := i) (r := (pkN g B least k i).1) hh (by omega) (by omega)
    rw [pkA, List.length_append, hN]
    omega
theorem qjQ {F : Nat} (hF : 2000000 ≤ F) {g : List (List Int)} (hg : Gr g) {B least : Int} {k : Nat} (hh : hcE B least (k : Int) = 0) : ∀ (j i : Nat), g.length < j + i → i ≤ g.length →
    kT F g B least (k : Int) j ((pkA g B least k i).1, (pkA g B least k i).2.1, (pkA g B least k i).2.2, (i : Int)) = some (if 8192 < (pkA g B least k g.length).1.length then ([], [], [], 8) else ((pkA g B least k g.length).1, (pkA g B least k g.length).2.1, (pkA g B least k g.length).2.2, 0))
  | 0, _, _, _ => by omega
  | j + 1, i, h, hi => by
    have hgl := hg.1
    show qaZ F g B least (k : Int) (kT F g B least (k : Int) j) (pkA g B least k i).1 (pkA g B least k i).2.1 (pkA g B least k i).2.2 (i : Int) = _
    unfold qaZ
    by_cases hlt : i < g.length
    · have h1 := qoj hg hh (B := B) (least := least) (k := k) i (by omega)
      obtain ⟨hr, hN⟩ := qhf (g := g) (B := B) (least := least) (k := k) (i := i)
      have h2 := qk3 hg (B := B) (least := least) (k := k) (i := i) (r := (pkN g B least k i).1) hh (by omega) (by omega)
      rw [← hN] at h2
      obtain ⟨l1, l2⟩ := qgO (g := g) (B := B) (least := least) (k := k) i
      rw [if_pos (by simp; omega), qqA hF hg hh hlt]
      simp only [Option.bind_some]
      rw [qQ (by rw [l1]; simp; omega)]
      simp only [Option.bind_some]
      rw [qQ (by rw [l2]; simp; omega)]
      simp only [Option.bind_some]
      rw [qQ (by omega)]
      simp only [Option.bind_some]
      rw [qn (by omega)]
      exact qjQ hF hg hh j (i + 1) (by omega) (by omega)
    · rw [if_neg (by simp; omega)]
      have : i = g.length := by omega
      subst this
      unfold qcy
      by_cases hc : 8192 < (pkA g B least k g.length).1.length
      · rw [if_pos (by simp; omega), if_pos hc]
      · rw [if_neg (by simp; omega), if_neg hc]
def rpw (g : List (List Int)) (B least k : Int) : List Int × List Int × List Int × Int :=
  if pkE g B least k ≠ 0 then ([], [], [], pkE g B least k) else ((pkA g B least k.toNat g.length).1, (pkA g B least k.toNat g.length).2.1, (pkA g B least k.toNat g.length).2.2, 0)
theorem qiu {F : Nat} (hF : 2000000 ≤ F) {g : List (List Int)} {B least k : Int} : qbm F g B least k = some (rpw g B least k) := by
  unfold qbm rpw
  rw [qiq (by omega)]
  simp only [Option.bind_some]
  unfold qa0
  by_cases h1 : gchk g = 0
  · rw [if_pos (by simpa using h1), qlb]
    simp only [Option.bind_some]
    by_cases h2 : hcE B least k = 0
    · rw [if_neg (by simp [h2])]
      obtain ⟨_, _, k', rfl, _, _⟩ := qbZ h2
      have hg := qef.1 h1
      have hgl := hg.1
      have hl : kT F g B least (k' : Int) F ([], [], [], 0) = _ := qjQ hF hg h2 F 0 (by omega) (Nat.zero_le _)
      rw [hl, Int.toNat_natCast]
      by_cases h3 : 8192 < (pkA g B least k' g.length).1.length
      · have hE0 : pkE g B least (k' : Int) = 8 := by
          unfold pkE
          rw [if_neg (by simp [h1]), if_neg (by simp [h2]), if_pos (by rw [Int.toNat_natCast]; omega)]
        rw [if_pos h3, hE0, if_pos (by decide)]
      · have hE0 : pkE g B least (k' : Int) = 0 := qqd h1 h2 (by rw [Int.toNat_natCast]; omega)
        rw [if_neg h3, if_neg (by simp [hE0])]
    · have hE : pkE g B least k = hcE B least k := by
        unfold pkE
        rw [if_neg (by simp [h1]), if_pos h2]
      rw [if_pos (by simpa using h2), hE, if_pos h2]
  · have hE : pkE g B least k = gchk g := by
      unfold pkE
      rw [if_pos h1]
    rw [if_neg (by simpa using h1), if_pos (by simpa using h1), hE, if_pos h1]
theorem qnm {F : Nat} (hF : 20000 ≤ F) {N B least k m : Int} {b : List Int} (hb : U8s b) : qcR F N B least k m b = some (pcE N B least k m b) := by
  unfold qcR qa1 pcE
  rw [qdT]
  simp only [Option.bind_some]
  by_cases h1 : N < 0 ∨ 100 < N
  · rw [if_pos (by simp; omega), if_pos h1]
  · rw [if_neg (by simp; omega), if_neg h1, qlb]
    simp only [Option.bind_some]
    by_cases h2 : hcE B least k = 0
    · rw [if_pos (by simpa using h2), if_neg (by simp [h2]), qgC hF hb]
      rfl
    · rw [if_neg (by simpa using h2), if_pos h2]
theorem qjO {F k : Nat} (hF : 2000000 ≤ F) {l : List Int} (hl : Bit l) (hm : l.length ≤ 8192) {B least : Int} (hh : hcE B least (k : Int) = 0) {n : Nat} (hn : n ≤ 100) : ∀ (j p : Nat) (out : List (List Int)), n < j + out.length → out.length ≤ n → p ≤ l.length → (∀ x ∈ out, gkc x = 0) →
    zn F (n : Int) B least (k : Int) (l.length : Int) (pk l) l j ((p : Int), (out.length : Int), out) = match pkR l B least k (n - out.length) out p with | none => some ([], 1) | some r => yF F B least (k : Int) l r.1
  | 0, _, _, _, _, _, _ => by omega
  | j + 1, p, out, h, ho, hp, hg => by
    obtain ⟨k1, k2, k', hk, k3, k4⟩ := qbZ hh
    have hkk : k = k' := by omega
    subst hkk
    show qaX F (n : Int) B least (k : Int) (l.length : Int) (pk l) l (zn F (n : Int) B least (k : Int) (l.length : Int) (pk l) l j) (p : Int) (out.length : Int) out = _
    unfold qaX
    by_cases hlt : out.length < n
    · rw [if_pos (by simp; omega), show n - out.length = (n - (out.length + 1)) + 1 from by omega]
      have h25 : ∀ o : Int × Nat, 0 ≤ o.1 → o.1 ≤ min B (out.length : Int) → o.2 ≤ l.length → jd F (zn F (n : Int) B least (k : Int) (l.length : Int) (pk l) l j) least (k : Int) (l.length : Int) (pk l) (out.length : Int) out (o.2 : Int) o.1 = match (rdl l o.2 (out.length : Int) (pkF out out.length o.1.toNat) o.1 least k).bind fun r => pkR l B least k (n - (out.length + 1)) (out ++ [r.1]) r.2 with | none => some ([], 1) | some r => yF F B least (k : Int) l r.1 := by
        intro o o1 o2 o3
        have hfr : gkc (pkF out out.length o.1.toNat) = 0 := by
          unfold pkF
          split
          · rw [List.getD_eq_getElem?_getD]
            by_cases hq : out.length - o.1.toNat < out.length
            · rw [List.getElem?_eq_getElem hq]; exact hg _ (List.getElem_mem hq)
            · rw [List.getElem?_eq_none (by omega)]; decide
          · decide
        have hho : hcE o.1 least (k : Int) = 0 := by
          have := qpZ (r := o.1.toNat) hh (by omega)
          rwa [show ((o.1.toNat : Nat) : Int) = o.1 from by omega] at this
        have hstep : ∀ fr : List Int, fr = pkF out out.length o.1.toNat → ((qa6 F (l.length : Int) (pk l) (o.2 : Int) (out.length : Int) fr o.1 least (k : Int)).bind fun x602 => (if ((x602.2.2 : Int) != 0) then some (([] : List (List Int)), (1 : Int)) else ((app 2199023255552 out ([x602.1] : List (List Int))).bind fun x608 => jc F (zn F (n : Int) B least (k : Int) (l.length : Int) (pk l) l j) (out.length : Int) x602.2.1 x608))) = match (rdl l o.2 (out.length : Int) (pkF out out.length o.1.toNat) o.1 least k).bind fun r => pkR l B least k (n - (out.length + 1)) (out ++ [r.1]) r.2 with | none => some ([], 1) | some r => yF F B least (k : Int) l r.1 := by
          intro fr hfe
          subst hfe
          rw [qpb hF (qeJ hl), qtA hl hm o3 hho (qqJ (by unfold Nd; omega) (fun _ => hfr)), Int.toNat_natCast]
          simp only [Option.bind_some]
          cases hr : rdl l o.2 (out.length : Int) (pkF out out.length o.1.toNat) o.1 least k with
          | none => rfl
          | some r =>
            obtain ⟨r1, r2, r3, r4, r5⟩ := qgQ hl k3 hr
            simp only [Option.bind_some]
            rw [if_neg (by simp), qQ (by simp; omega)]
            simp only [Option.bind_some]
            unfold jc
            have hl1 : (out ++ [r.1]).length = out.length + 1 := by simp
            have hrec := qjO hF hl hm hh hn j r.2 (out ++ [r.1]) (by omega) (by omega) r5 (fun x hx => by
              rcases List.mem_append.1 hx with hx | hx
              · exact hg x hx
              · simp at hx; subst hx; exact r1)
            rw [hl1] at hrec
            rw [qn (by omega), hrec]
        have ecv : iconv .i64 o.1 = o.1 := q4 (by omega) (by omega)
        unfold jd
        rw [ecv]
        by_cases h0 : 0 < o.1
        · rw [if_pos (by simpa using h0), qx (by omega) (by omega), show ((out.length : Int) - o.1) = ((out.length - o.1.toNat : Nat) : Int) from by omega, qfp (by omega)]
          simp only [Option.bind_some]
          exact hstep _ (by unfold pkF; rw [if_pos (by omega)])
        · rw [if_neg (by simpa using h0)]
          exact hstep _ (by unfold pkF; rw [if_neg (by omega)])
      simp only [pkR]
      by_cases hB : 0 < B
      · rw [if_pos (by simpa using hB), qe2 (by omega) hl hm hp]
        simp only [Option.bind_some]
        have hcv : iconv .u64 B = B := by
          obtain ⟨q, hq⟩ := Int.eq_ofNat_of_zero_le (a := B) (by omega)
          rw [hq]; exact zP (by omega)
        have hO : pkO l B out.length p = rgam l p (min B (out.length : Int)) := by unfold pkO; rw [if_neg (by omega)]
        rw [hcv, hO]
        cases hr : rgam l p (min B (out.length : Int)) with
        | none =>
          have hbad : (fg l p).2.2 ≠ 0 ∨ B < (fg l p).1 ∨ (out.length : Int) < iconv .i64 (fg l p).1 := by
            rcases qjx (l := l) (a := p) with h1 | ⟨v, q, h1, h2, h3⟩
            · exact Or.inl h1
            · rcases qjN hr with h4 | h4
              · exact Or.inl h4
              · right
                rw [h1] at h4 ⊢
                simp only at h4 ⊢
                have e : iconv .i64 (v : Int) = (v : Int) := q4 (by omega) (by omega)
                rw [e]
                omega
          rw [if_pos (by
            simp only [Bool.or_eq_true, bne_iff_ne, ne_eq, decide_eq_true_eq]
            rcases hbad with h1 | h1 | h1
            · exact Or.inl (Or.inl h1)
            · exact Or.inl (Or.inr h1)
            · exact Or.inr h1)]
          rfl
        | some o =>
          obtain ⟨h1, h2⟩ := qla hr
          have hok := yY hr
          have e : iconv .i64 o.1 = o.1 := q4 (by omega) (by omega)
          rw [h1]
          simp only
          rw [e, if_neg (by simp; omega)]
          exact h25 o hok.1 h2 hok.2.2.2
      · rw [if_neg (by simpa using hB)]
        have hO : pkO l B out.length p = some (0, p) := by unfold pkO; rw [if_pos (by omega)]
        rw [hO]
        exact h25 (0, p) (by simp) (by simp only; omega) hp
    · rw [if_neg (by simp; omega), show n - out.length = 0 from by omega]
      simp only [pkR]
theorem qjP {F : Nat} (hF : 2000000 ≤ F) {N B least k m : Int} {b : List Int} (hb : U8s b) : qdp F N B least k m b = some (prd N B least k m b) := by
  unfold qdp
  rw [qnm (by omega) hb]
  simp only [Option.bind_some]
  by_cases h : pcE N B least k m b = 0
  · rw [if_neg (by simp [h])]
    obtain ⟨n, l, rfl, hn, hh, hl, hlm, rfl, rfl⟩ := qng hb h
    obtain ⟨k1, k2, k', rfl, k3, k4⟩ := qbZ hh
    have hbl : js F (l.length : Int) (pk l) = some l := by
      rw [qgk (by omega) (qeJ hl) (by rw [qe8]; omega) (by omega), qbg hl]
    rw [hbl]
    simp only [Option.bind_some]
    have hL : zn F (n : Int) B least (k' : Int) (l.length : Int) (pk l) l F (0, 0, []) = _ := qjO (F := F) hF hl hlm hh hn F 0 [] (by simp; omega) (Nat.zero_le _) (Nat.zero_le _) (by simp)
    rw [hL]
    simp only [List.length_nil, Nat.sub_zero]
    have hP : ∀ r, pkR l B least k' n [] 0 = some r → prd (n : Int) B least (k' : Int) (l.length : Int) (pk l) = if r.2 = l.length ∧ pkE r.1 B least (k' : Int) = 0 ∧ pk (pkA r.1 B least k' r.1.length).1 = pk l then (r.1, 0) else ([], 1) := by
      intro r hr
      unfold prd
      rw [if_neg (by simp [h])]
      simp only [Int.toNat_natCast, qbg hl, hr]
    cases hr : pkR l B least k' n [] 0 with
    | none =>
      unfold prd
      rw [if_neg (by simp [h])]
      simp only [Int.toNat_natCast, qbg hl, hr]
    | some r =>
      have hp := hP r hr
      simp only
      unfold yF qaY
      rw [qiu hF]
      simp only [Option.bind_some]
      unfold rpw
      by_cases hE : pkE r.1 B least (k' : Int) = 0
      · obtain ⟨g1, g2, g3⟩ := qfw hE
        rw [Int.toNat_natCast] at g3
        have hg := qef.1 g1
        rw [if_neg (by simp [hE])]
        simp only [Int.toNat_natCast]
        rw [if_neg (by simp [hE]), qcH (by simp only; omega) (by simp only; omega)]
        simp only [Option.bind_some]
        by_cases hq : (pkA r.1 B least k' r.1.length).1 = l
        · rw [decide_eq_true hq, if_neg (by simp)]
          obtain ⟨b1, _⟩ := qil hl k1.1 k3 n 0 [] r hr (Nat.zero_le _) (by simp [pkA])
          rw [List.length_nil, Nat.zero_add] at b1
          have hr2 := qhM hg hh g3 [] r.1.length 0 (by omega)
          have hr3 : pkR l B least k' n [] 0 = some (r.1, (pkA r.1 B least k' r.1.length).1.length) := by
            rw [List.append_nil, hq] at hr2
            rw [hq, ← b1]; exact hr2
          rw [hr] at hr3
          have e2 : r.2 = l.length := by
            have := Option.some.inj hr3
            rw [this, hq]
          rw [hp, if_pos ⟨e2, hE, by rw [hq]⟩]
        · rw [decide_eq_false hq, if_pos (by simp), hp]
          by_cases hc : r.2 = l.length ∧ pkE r.1 B least (k' : Int) = 0 ∧ pk (pkA r.1 B least k' r.1.length).1 = pk l
          · exfalso
            rw [if_pos hc] at hp
            obtain ⟨x, hx, -, -, e4, e5⟩ := qqk hb (by rw [hp])
            rw [hp] at hx
            have e6 : x = r.1 := by
              have := congrArg Prod.fst hx
              exact this.symm
            subst e6
            rw [Int.toNat_natCast] at e4 e5
            apply hq
            have e7 : l.length = (pkA r.1 B least k' r.1.length).1.length := by omega
            have e8 := qbg hl
            rw [e5, e7, qbg (qeg _)] at e8
            exact e8
          · rw [if_neg hc]
      · rw [if_pos hE, if_pos (by simpa using hE), if_pos (by trivial), hp, if_neg (fun hc => hE hc.2.1)]
  · rw [if_pos (by simpa using h)]
    unfold prd
    rw [if_pos h]
theorem qs6 {N B least k m : Int} {b : List Int} (hb : U8s b) : PSm (prd N B least k m b).1 := by
  by_cases h : (prd N B least k m b).2 = 0
  · obtain ⟨x, hx, hE, -, -, -⟩ := qqk hb h
    rw [hx]
    exact qql (qef.1 (qfw hE).1)
  · rw [qr1 h]
    exact qr2
theorem qm8 {F : Nat} (hF : 2000000 ≤ F) {g : List (List Int)} {B least k N B2 least2 k2 m : Int} {b : List Int} (hb : U8s b) (hm : I64 m) (lb : b.length ≤ 9223372036854775807) : qem F g B least k N B2 least2 k2 m b = some true := by
  unfold qem
  rw [qhh hF]
  simp only [Option.bind_some]
  rw [qim hF hb hm lb]
  simp only [Option.bind_some]
  rw [qmj hF]
  simp only [Option.bind_some]
  rw [qiu hF]
  simp only [Option.bind_some]
  have hsm := qs6 (N := N) (B := B2) (least := least2) (k := k2) (m := m) hb
  by_cases hE : pkE g B least k = 0
  · obtain ⟨g1, g2, g3⟩ := qfw hE
    have hg := qef.1 g1
    have hgl := hg.1
    have hT : ptl g B least k = ((pkA g B least k.toNat g.length).2.1, (pkA g B least k.toNat g.length).2.2, 0) := by
      unfold ptl
      rw [if_neg (by simp [hE])]
    have hW : pwr g B least k = ((g.length : Int), B, least, k, ((pkA g B least k.toNat g.length).1.length : Int), pk (pkA g B least k.toNat g.length).1, 0) := by
      unfold pwr
      rw [if_neg (by simp [hE])]
    have hR : rpw g B least k = ((pkA g B least k.toNat g.length).1, (pkA g B least k.toNat g.length).2.1, (pkA g B least k.toNat g.length).2.2, 0) := by
      unfold rpw
      rw [if_neg (by simp [hE])]
    obtain ⟨l1, l2⟩ := qgO (g := g) (B := B) (least := least) (k := k.toNat) g.length
    rw [hT, hW, hR]
    simp only
    rw [if_pos (by rfl), qmc (by omega) (qeg _) (by omega)]
    simp only [Option.bind_some]
    unfold vV
    rw [qjP hF hb]
    simp only [Option.bind_some]
    rw [pbegun hF]
    simp only [Option.bind_some, if_true]
    unfold qcc vp
    rw [if_pos (by simp), qjU (by rw [qe8]; omega) (by rw [qe8]; omega)]
    simp only [Option.bind_some]
    unfold vW
    rw [if_pos (by simp), qfx (by omega) hsm]
    simp only [Option.bind_some]
    unfold vX
    rw [if_pos (by simp), qcH (by simp only; omega) (by simp only; omega), decide_eq_true rfl]
    simp only [Option.bind_some]
    unfold vY
    rw [if_pos (by simp), qcH (by simp only; omega) (by simp only; omega), decide_eq_true rfl]
    rfl
  · have hT : ptl g B least k = ([], [], pkE g B least k) := by
      unfold ptl
      rw [if_pos hE]
    have hW : pwr g B least k = (0, 0, 0, 0, 0, [], pkE g B least k) := by
      unfold pwr
      rw [if_pos hE]
    have hR : rpw g B least k = ([], [], [], pkE g B least k) := by
      unfold rpw
      rw [if_pos hE]
    rw [hT, hW, hR]
    simp only
    rw [if_neg (by simpa using hE)]
    unfold vV
    rw [qjP hF hb]
    simp only [Option.bind_some]
    rw [pbegun hF]
    simp only [Option.bind_some, if_true]
    unfold qcc vp
    rw [if_pos (by simp), qjU (by simp; omega) (by simp)]
    simp only [Option.bind_some]
    unfold vW
    rw [if_pos (by simp), qfx (by omega) hsm]
    simp only [Option.bind_some]
    unfold vX
    rw [if_pos (by simp), qcH (by simp; omega) (by simp), decide_eq_true rfl]
    simp only [Option.bind_some]
    unfold vY
    rw [if_pos (by simp), qcH (by simp; omega) (by simp), decide_eq_true rfl]
    simp only [Option.bind_some]
    unfold qaN
    simp
end Go.Proofs.YtpnfijegoepiaaaGreat
