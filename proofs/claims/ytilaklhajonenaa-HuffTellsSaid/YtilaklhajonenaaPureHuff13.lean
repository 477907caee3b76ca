/- Plain facts of what the functions of this seat compute. -/
import Derived.Test.YtilaklhajonenaaModels
import Derived.KernelRfl
import Derived.Lib.SlicesCompact
namespace Go.Proofs.Ytilaklhajonenaa
open Go SX
def hcost : List (Nat × Nat) → Nat
  | [] => 0
  | p :: t => p.1 * p.2 + hcost t
def wins (a : Nat) : List Nat → List Nat
  | [] => [a]
  | b :: t => if a ≤ b then a :: b :: t else b :: wins a t
theorem wins_perm (a : Nat) : ∀ l : List Nat, (wins a l).Perm (a :: l)
  | [] => List.Perm.refl _
  | b :: t => by
    unfold wins
    split
    · exact List.Perm.refl _
    · exact ((wins_perm a t).cons b).trans (List.Perm.swap a b t)
theorem wins_sorted {a : Nat} : ∀ {l : List Nat}, l.Pairwise (· ≤ ·) → (wins a l).Pairwise (· ≤ ·)
  | [], _ => by simp [wins]
  | b :: t, h => by
    rw [List.pairwise_cons] at h
    unfold wins
    split
    · rename_i hab
      refine List.pairwise_cons.2 ⟨fun x hx => ?_, List.pairwise_cons.2 h⟩
      rcases List.mem_cons.1 hx with rfl | hx
      · exact hab
      · exact Nat.le_trans hab (h.1 x hx)
    · rename_i hab
      refine List.pairwise_cons.2 ⟨fun x hx => ?_, wins_sorted h.2⟩
      rcases List.mem_cons.1 ((wins_perm a t).mem_iff.1 hx) with rfl | hx
      · omega
      · exact h.1 x hx
def hc : Nat → List Nat → Nat
  | 0, _ => 0
  | n + 1, a :: b :: t => a + b + hc n (wins (a + b) t)
  | _ + 1, _ => 0
abbrev Grp := List Nat × Nat
def glt (g h : Grp) : Bool := decide (g.2 < h.2) || (decide (g.2 = h.2) && decide (g.1.headD 0 < h.1.headD 0))
theorem glt_iff {g h : Grp} : glt g h = true ↔ g.2 < h.2 ∨ (g.2 = h.2 ∧ g.1.headD 0 < h.1.headD 0) := by simp [glt]
theorem glt_trans {a b c : Grp} (h : glt a b = true) (h' : glt b c = true) : glt a c = true := by
  rw [glt_iff] at *
  omega
def gins (g : Grp) : List Grp → List Grp
  | [] => [g]
  | h :: t => if glt h g then h :: gins g t else g :: h :: t
theorem gins_perm (g : Grp) : ∀ l : List Grp, (gins g l).Perm (g :: l)
  | [] => List.Perm.refl _
  | h :: t => by
    unfold gins
    split
    · exact ((gins_perm g t).cons h).trans (List.Perm.swap g h t)
    · exact List.Perm.refl _
theorem gins_len (g : Grp) (l : List Grp) : (gins g l).length = l.length + 1 := by
  rw [(gins_perm g l).length_eq]; rfl
/-- Groups with other first signs come in one order. -/
def Apg (g h : Grp) : Prop := g.1.headD 0 ≠ h.1.headD 0
theorem glt_or {g h : Grp} (ha : Apg g h) (hn : glt h g = false) : glt g h = true := by
  have h1 : ¬ glt h g = true := by rw [hn]; simp
  rw [glt_iff] at *
  unfold Apg at ha
  omega
theorem gins_sorted {g : Grp} : ∀ {l : List Grp}, l.Pairwise (fun a b => glt a b = true) → (∀ h ∈ l, Apg g h) → (gins g l).Pairwise (fun a b => glt a b = true)
  | [], _, _ => by simp [gins]
  | h :: t, hp, ha => by
    rw [List.pairwise_cons] at hp
    unfold gins
    split
    · rename_i hg
      refine List.pairwise_cons.2 ⟨fun x hx => ?_, gins_sorted hp.2 fun y hy => ha y (by simp [hy])⟩
      rcases List.mem_cons.1 ((gins_perm g t).mem_iff.1 hx) with rfl | hx
      · exact hg
      · exact hp.1 x hx
    · rename_i hg
      have hgh : glt g h = true := glt_or (ha h (by simp)) (by simpa using hg)
      refine List.pairwise_cons.2 ⟨fun x hx => ?_, List.pairwise_cons.2 hp⟩
      rcases List.mem_cons.1 hx with rfl | hx
      · exact hgh
      · exact glt_trans hgh (hp.1 x hx)
theorem wins_head {a : Nat} {l : List Nat} (h : ∀ x ∈ l, a ≤ x) : wins a l = a :: l := by
  cases l with
  | nil => rfl
  | cons b t => unfold wins; rw [if_pos (h b (by simp))]
theorem sorted_wts {l : List Grp} (h : l.Pairwise (fun a b => glt a b = true)) : (l.map (·.2)).Pairwise (· ≤ ·) := by
  rw [List.pairwise_map]
  exact h.imp fun {a b} hab => by
    rw [glt_iff] at hab
    omega
theorem gins_wts {g : Grp} : ∀ {l : List Grp}, l.Pairwise (fun a b => glt a b = true) → (gins g l).map (·.2) = wins g.2 (l.map (·.2))
  | [], _ => rfl
  | h :: t, hp => by
    have hw := sorted_wts hp
    rw [List.map_cons, List.pairwise_cons] at hw
    rw [List.pairwise_cons] at hp
    unfold gins
    split
    · rename_i hg
      rw [List.map_cons, gins_wts hp.2, List.map_cons]
      rw [glt_iff] at hg
      rcases hg with hg | ⟨hg, _⟩
      · conv => rhs; unfold wins
        rw [if_neg (by omega)]
      · rw [wins_head (a := g.2) (l := h.2 :: t.map (·.2)) (fun x hx => by
          rcases List.mem_cons.1 hx with rfl | hx
          · omega
          · have := hw.1 x hx; omega), wins_head (fun x hx => by have := hw.1 x hx; omega), hg]
    · rename_i hg
      have h1 : ¬ glt h g = true := hg
      rw [glt_iff] at h1
      rw [List.map_cons, List.map_cons]
      conv => rhs; unfold wins
      rw [if_pos (by omega)]
def srtN : List Nat → List Nat
  | [] => []
  | a :: l => wins a (srtN l)
theorem srtN_perm : ∀ l : List Nat, (srtN l).Perm l
  | [] => List.Perm.refl _
  | a :: l => (wins_perm a _).trans ((srtN_perm l).cons a)
theorem srtN_sorted : ∀ l : List Nat, (srtN l).Pairwise (· ≤ ·)
  | [] => List.Pairwise.nil
  | a :: l => wins_sorted (srtN_sorted l)
def gmerge (a b : Grp) : Grp := (srtN (a.1 ++ b.1), a.2 + b.2)
def gbump (o : Nat → Nat) (ss : List Nat) : Nat → Nat := fun s => if s ∈ ss then o s + 1 else o s
def hrun : Nat → List Grp → (Nat → Nat) → (Nat → Nat)
  | k + 1, a :: b :: t, o => hrun k (gins (gmerge a b) t) (gbump o (a.1 ++ b.1))
  | _, _, o => o
def hsg (h : List Grp) : List Nat := h.flatMap (·.1)
theorem hsg_perm {a b : List Grp} (h : a.Perm b) : (hsg a).Perm (hsg b) := List.Perm.flatMap_right _ h
theorem hsg_merge {a b : Grp} {t : List Grp} : (hsg (gins (gmerge a b) t)).Perm (hsg (a :: b :: t)) := by
  refine (hsg_perm (gins_perm _ _)).trans ?_
  show ((srtN (a.1 ++ b.1)) ++ hsg t).Perm (a.1 ++ (b.1 ++ hsg t))
  rw [← List.append_assoc]
  exact (srtN_perm _).append_right _
def nsum (l : List Nat) (f : Nat → Nat) : Nat := (l.map f).sum
theorem nsum_nil (f : Nat → Nat) : nsum [] f = 0 := rfl
theorem nsum_cons (a : Nat) (l : List Nat) (f : Nat → Nat) : nsum (a :: l) f = f a + nsum l f := by simp [nsum]
theorem nsum_app (a b : List Nat) (f : Nat → Nat) : nsum (a ++ b) f = nsum a f + nsum b f := by simp [nsum]
theorem nsum_perm {a b : List Nat} (h : a.Perm b) (f : Nat → Nat) : nsum a f = nsum b f := by
  induction h with
  | nil => rfl
  | cons x _ ih => simp [nsum_cons, ih]
  | swap x y l => simp only [nsum_cons]; omega
  | trans _ _ h1 h2 => exact h1.trans h2
theorem nsum_congr {l : List Nat} {f g : Nat → Nat} (h : ∀ s ∈ l, f s = g s) : nsum l f = nsum l g := by
  unfold nsum
  rw [List.map_congr_left h]
theorem nsum_add (l : List Nat) (f g : Nat → Nat) : nsum l (fun s => f s + g s) = nsum l f + nsum l g := by
  induction l with
  | nil => rfl
  | cons a l ih => simp only [nsum_cons, ih]; omega
theorem nsum_mul (l : List Nat) (f : Nat → Nat) (k : Nat) : nsum l (fun s => k * f s) = k * nsum l f := by
  induction l with
  | nil => rfl
  | cons a l ih => simp only [nsum_cons, ih, Nat.mul_add]
theorem nsum_le {l : List Nat} {f g : Nat → Nat} (h : ∀ s ∈ l, f s ≤ g s) : nsum l f ≤ nsum l g := by
  induction l with
  | nil => exact Nat.le_refl _
  | cons a l ih =>
    simp only [nsum_cons]
    have := h a (by simp)
    have := ih fun s hs => h s (by simp [hs])
    omega
structure HI (w : Nat → Nat) (h : List Grp) (o : Nat → Nat) : Prop where
  nd : (hsg h).Nodup
  ne : ∀ g ∈ h, g.1 ≠ []
  up : ∀ g ∈ h, g.1.Pairwise (· < ·)
  wt : ∀ g ∈ h, g.2 = nsum g.1 w
  ord : h.Pairwise (fun a b => glt a b = true)
  room : ∀ g ∈ h, nsum g.1 (fun s => 2 ^ (64 - o s)) = 2 ^ 64
  low : ∀ s ∈ hsg h, o s + h.length ≤ 64
theorem head_mem {g : Grp} (h : g.1 ≠ []) : g.1.headD 0 ∈ g.1 := by
  obtain ⟨l, w⟩ := g
  cases l with
  | nil => exact absurd rfl h
  | cons a t => simp
theorem mem_hsg {h : List Grp} {s : Nat} : s ∈ hsg h ↔ ∃ g ∈ h, s ∈ g.1 := List.mem_flatMap
theorem HI.step {w o : Nat → Nat} {a b : Grp} {t : List Grp} (h : HI w (a :: b :: t) o) : HI w (gins (gmerge a b) t) (gbump o (a.1 ++ b.1)) := by
  have hmem : ∀ g, g ∈ gins (gmerge a b) t ↔ g = gmerge a b ∨ g ∈ t := fun g => by rw [(gins_perm _ _).mem_iff, List.mem_cons]
  have hnd := h.nd
  have hnd' : (a.1 ++ (b.1 ++ hsg t)).Nodup := hnd
  rw [← List.append_assoc] at hnd'
  obtain ⟨hab, hT, hdis⟩ := List.nodup_append.1 hnd'
  have hnot : ∀ g ∈ t, ∀ s ∈ g.1, s ∉ a.1 ++ b.1 := fun g hg s hs hm => hdis s hm s (mem_hsg.2 ⟨g, hg, hs⟩) rfl
  have hout : ∀ g ∈ t, ∀ s ∈ g.1, gbump o (a.1 ++ b.1) s = o s := fun g hg s hs => by unfold gbump; rw [if_neg (hnot g hg s hs)]
  have hin : ∀ s ∈ a.1 ++ b.1, gbump o (a.1 ++ b.1) s = o s + 1 := fun s hs => by unfold gbump; rw [if_pos hs]
  have hp := h.ord
  rw [List.pairwise_cons, List.pairwise_cons] at hp
  refine ⟨hsg_merge.nodup_iff.2 hnd, fun g hg => ?_, fun g hg => ?_, fun g hg => ?_, ?_, fun g hg => ?_, fun s hs => ?_⟩
  · rcases (hmem g).1 hg with rfl | hg
    · have h1 := h.ne a (by simp)
      intro h0
      have h2 := (srtN_perm (a.1 ++ b.1)).length_eq
      have h3 : srtN (a.1 ++ b.1) = [] := h0
      rw [h3] at h2
      simp only [List.length_nil, List.length_append] at h2
      exact h1 (List.eq_nil_of_length_eq_zero (by omega))
    · exact h.ne g (by simp [hg])
  · rcases (hmem g).1 hg with rfl | hg
    · have h1 := srtN_sorted (a.1 ++ b.1)
      have h2 : (srtN (a.1 ++ b.1)).Nodup := (srtN_perm _).nodup_iff.2 hab
      exact (List.pairwise_and_iff.2 ⟨h1, h2⟩).imp fun ⟨h3, h4⟩ => by omega
    · exact h.up g (by simp [hg])
  · rcases (hmem g).1 hg with rfl | hg
    · show a.2 + b.2 = nsum (srtN (a.1 ++ b.1)) w
      rw [nsum_perm (srtN_perm _), nsum_app, ← h.wt a (by simp), ← h.wt b (by simp)]
    · exact h.wt g (by simp [hg])
  · refine gins_sorted hp.2.2 fun g hg => ?_
    intro he
    have h1 : (gmerge a b).1.headD 0 ∈ a.1 ++ b.1 := by
      refine (srtN_perm (a.1 ++ b.1)).mem_iff.1 (head_mem (g := gmerge a b) ?_)
      intro h0
      have h2 := (srtN_perm (a.1 ++ b.1)).length_eq
      have h3 : srtN (a.1 ++ b.1) = [] := h0
      rw [h3] at h2
      simp only [List.length_nil, List.length_append] at h2
      exact h.ne a (by simp) (List.eq_nil_of_length_eq_zero (by omega))
    rw [he] at h1
    exact hnot g hg _ (head_mem (h.ne g (by simp [hg]))) h1
  · rcases (hmem g).1 hg with rfl | hg
    · show nsum (srtN (a.1 ++ b.1)) _ = _
      rw [nsum_perm (srtN_perm _)]
      have e1 : ∀ s ∈ a.1 ++ b.1, 2 ^ (64 - o s) = 2 * 2 ^ (64 - gbump o (a.1 ++ b.1) s) := fun s hs => by
        have hl := h.low s (mem_hsg.2 (by
          rcases List.mem_append.1 hs with hs | hs
          · exact ⟨a, by simp, hs⟩
          · exact ⟨b, by simp, hs⟩))
        simp only [List.length_cons] at hl
        rw [hin s hs, show 64 - o s = (64 - (o s + 1)) + 1 by omega, Nat.pow_succ, Nat.mul_comm]
      have e2 : nsum (a.1 ++ b.1) (fun s => 2 ^ (64 - o s)) = 2 * nsum (a.1 ++ b.1) (fun s => 2 ^ (64 - gbump o (a.1 ++ b.1) s)) := by
        rw [nsum_congr e1, nsum_mul]
      rw [nsum_app, h.room a (by simp), h.room b (by simp)] at e2
      omega
    · rw [nsum_congr (g := fun s => 2 ^ (64 - o s)) fun s hs => by rw [hout g hg s hs]]
      exact h.room g (by simp [hg])
  · have hs' := hsg_merge.mem_iff.1 hs
    have hl := h.low s hs'
    rw [gins_len]
    simp only [List.length_cons] at hl
    unfold gbump
    split <;> omega
/-- What the whole run comes to. -/
theorem hrun_spec {w : Nat → Nat} : ∀ (k : Nat) (h : List Grp) (o : Nat → Nat), h.length ≤ k → HI w h o →
    nsum (hsg h) (fun s => w s * hrun k h o s) = nsum (hsg h) (fun s => w s * o s) + hc k (h.map (·.2)) ∧
    (h ≠ [] → nsum (hsg h) (fun s => 2 ^ (64 - hrun k h o s)) = 2 ^ 64) ∧
    (∀ s, s ∉ hsg h → hrun k h o s = o s) ∧ (2 ≤ h.length → ∀ s ∈ hsg h, o s + 1 ≤ hrun k h o s) ∧ (∀ s ∈ hsg h, o s ≤ hrun k h o s ∧ hrun k h o s ≤ 64)
  | 0, [], o, _, _ => ⟨rfl, fun h => absurd rfl h, fun _ _ => rfl, fun h => absurd h (by simp), fun s hs => by simp [hsg] at hs⟩
  | k + 1, [], o, _, _ => ⟨rfl, fun h => absurd rfl h, fun _ _ => rfl, fun h => absurd h (by simp), fun s hs => by simp [hsg] at hs⟩
  | 0, a :: t, o, hk, _ => absurd hk (by simp)
  | k + 1, [a], o, _, hi => by
    have e : hsg [a] = a.1 := by simp [hsg]
    refine ⟨rfl, fun _ => ?_, fun _ _ => rfl, fun h => absurd h (by simp), fun s hs => ?_⟩
    · rw [e]; exact hi.room a (by simp)
    · have := hi.low s hs
      exact ⟨Nat.le_refl _, show o s ≤ 64 by omega⟩
  | k + 1, a :: b :: t, o, hk, hi => by
    have hs := hi.step
    obtain ⟨i1, i2, i3, i4, i5⟩ := hrun_spec k _ _ (by rw [gins_len]; simp only [List.length_cons] at hk; omega) hs
    have hp := hi.ord
    rw [List.pairwise_cons, List.pairwise_cons] at hp
    have hm : (hsg (gins (gmerge a b) t)).Perm (hsg (a :: b :: t)) := hsg_merge
    have hR : hrun (k + 1) (a :: b :: t) o = hrun k (gins (gmerge a b) t) (gbump o (a.1 ++ b.1)) := rfl
    have hlow := hi.low
    rw [hR]
    rw [nsum_perm hm] at i1 i2
    rw [nsum_perm hm] at i1
    have hab : ∀ s ∈ a.1 ++ b.1, s ∈ hsg (a :: b :: t) := fun s hs => by
      refine mem_hsg.2 ?_
      rcases List.mem_append.1 hs with hs | hs
      · exact ⟨a, by simp, hs⟩
      · exact ⟨b, by simp, hs⟩
    have hge : ∀ s, o s ≤ gbump o (a.1 ++ b.1) s := fun s => by unfold gbump; split <;> omega
    refine ⟨?_, fun _ => i2 (by
      intro h0
      have := gins_len (gmerge a b) t
      rw [h0] at this
      simp at this), fun s hs => ?_, fun _ s hs => ?_, fun s hs => ?_⟩
    · rw [i1, gins_wts hp.2.2]
      show _ = _ + (a.2 + b.2 + hc k (wins (a.2 + b.2) (t.map (·.2))))
      have e : nsum (hsg (a :: b :: t)) (fun s => w s * gbump o (a.1 ++ b.1) s) = nsum (hsg (a :: b :: t)) (fun s => w s * o s) + (a.2 + b.2) := by
        have e1 : hsg (a :: b :: t) = (a.1 ++ b.1) ++ hsg t := by simp [hsg]
        have hnd : ((a.1 ++ b.1) ++ hsg t).Nodup := by rw [← e1]; exact hi.nd
        have hdis := (List.nodup_append.1 hnd).2.2
        rw [e1, nsum_app (a.1 ++ b.1) (hsg t), nsum_app (a.1 ++ b.1) (hsg t), nsum_congr (l := a.1 ++ b.1) (g := fun s => w s * o s + w s) (fun s hs => by unfold gbump; rw [if_pos hs, Nat.mul_add, Nat.mul_one]), nsum_add,
          nsum_congr (l := hsg t) (g := fun s => w s * o s) (fun s hs => by unfold gbump; rw [if_neg (fun hm => hdis s hm s hs rfl)])]
        have e2 : nsum (a.1 ++ b.1) (fun s => w s) = a.2 + b.2 := by rw [nsum_app, hi.wt a (by simp), hi.wt b (by simp)]
        rw [e2]
        omega
      rw [e]
      show _ + hc k (wins (gmerge a b).2 (t.map (·.2))) = _
      have e3 : (gmerge a b).2 = a.2 + b.2 := rfl
      rw [e3]
      omega
    · rw [i3 s (fun h => hs (hm.mem_iff.1 h))]
      unfold gbump
      rw [if_neg (fun h => hs (hab s h))]
    · have hs2 := hm.mem_iff.2 hs
      by_cases hs3 : s ∈ a.1 ++ b.1
      · have h1 := (i5 s hs2).1
        have h2 : gbump o (a.1 ++ b.1) s = o s + 1 := by unfold gbump; rw [if_pos hs3]
        omega
      · -- another group: it is merged later
        have hl : 2 ≤ (gins (gmerge a b) t).length := by
          rw [gins_len]
          obtain ⟨g, hg, hsg⟩ := mem_hsg.1 hs
          rcases List.mem_cons.1 hg with rfl | hg
          · exact absurd (List.mem_append.2 (.inl hsg)) hs3
          · rcases List.mem_cons.1 hg with rfl | hg
            · exact absurd (List.mem_append.2 (.inr hsg)) hs3
            · have := List.length_pos_of_mem hg
              omega
        have h1 := i4 hl s hs2
        have h2 := hge s
        omega
    · have h1 := i5 s (hm.mem_iff.2 hs)
      have h2 := hge s
      omega
/-- The byte at place k of a list of bits. -/
def byt (l : List Int) (k : Nat) : Int :=
  l.getD (8 * k) 0 * 128 + l.getD (8 * k + 1) 0 * 64 + l.getD (8 * k + 2) 0 * 32 + l.getD (8 * k + 3) 0 * 16 + l.getD (8 * k + 4) 0 * 8 + l.getD (8 * k + 5) 0 * 4 + l.getD (8 * k + 6) 0 * 2 + l.getD (8 * k + 7) 0
def pk (l : List Int) : List Int := (List.range ((l.length + 7) / 8)).map (byt l)
def Bit (l : List Int) : Prop := ∀ x ∈ l, x = 0 ∨ x = 1
theorem Bit.getD {l : List Int} (h : Bit l) (i : Nat) : l.getD i 0 = 0 ∨ l.getD i 0 = 1 := by
  by_cases hi : i < l.length
  · have := h l[i] (List.getElem_mem hi)
    simpa [List.getD, hi] using this
  · left
    simp [List.getD, List.getElem?_eq_none (Nat.le_of_not_lt hi)]
theorem getD_ge {l : List Int} {i : Nat} (h : l.length ≤ i) : l.getD i 0 = 0 := by simp [List.getD, List.getElem?_eq_none h]
theorem getD_snoc (l : List Int) (x : Int) (i : Nat) : (l ++ [x]).getD i 0 = if i = l.length then x else l.getD i 0 := by
  by_cases h : i = l.length
  · subst h; simp [List.getD]
  · rw [if_neg h]
    by_cases h2 : i < l.length
    · simp [List.getD, List.getElem?_append_left h2]
    · rw [getD_ge (by simp; omega), getD_ge (by omega)]
theorem byt_range {l : List Int} (h : Bit l) (k : Nat) : 0 ≤ byt l k ∧ byt l k < 256 := by
  have h0 := h.getD (8 * k); have h1 := h.getD (8 * k + 1); have h2 := h.getD (8 * k + 2); have h3 := h.getD (8 * k + 3)
  have h4 := h.getD (8 * k + 4); have h5 := h.getD (8 * k + 5); have h6 := h.getD (8 * k + 6); have h7 := h.getD (8 * k + 7)
  unfold byt
  omega
theorem byt_snoc_other {l : List Int} {x : Int} {k : Nat} (h : k ≠ l.length / 8) : byt (l ++ [x]) k = byt l k := by
  unfold byt
  simp only [getD_snoc]
  rw [if_neg (by omega), if_neg (by omega), if_neg (by omega), if_neg (by omega), if_neg (by omega), if_neg (by omega), if_neg (by omega), if_neg (by omega)]
theorem byt_snoc_at {l : List Int} {x : Int} : byt (l ++ [x]) (l.length / 8) = byt l (l.length / 8) + x * 2 ^ (7 - l.length % 8) := by
  obtain ⟨k, hk⟩ : ∃ k, k = l.length / 8 := ⟨_, rfl⟩
  obtain ⟨r, hr⟩ : ∃ r, r = l.length % 8 := ⟨_, rfl⟩
  have hl : l.length = 8 * k + r := by omega
  have hr8 : r < 8 := by omega
  rw [← hk, ← hr]
  unfold byt
  simp only [getD_snoc, hl]
  have hg : ∀ j, r ≤ j → l.getD (8 * k + j) 0 = 0 := fun j hj => getD_ge (by omega)
  have g0 := hg 0; have g1 := hg 1; have g2 := hg 2; have g3 := hg 3; have g4 := hg 4; have g5 := hg 5; have g6 := hg 6; have g7 := hg 7
  rw [Nat.add_zero] at g0
  rcases (by omega : r = 0 ∨ r = 1 ∨ r = 2 ∨ r = 3 ∨ r = 4 ∨ r = 5 ∨ r = 6 ∨ r = 7) with rfl | rfl | rfl | rfl | rfl | rfl | rfl | rfl
  · rw [show (2 : Int) ^ (7 - 0) = 128 from by decide]
    rw [if_pos (by omega), if_neg (by omega), if_neg (by omega), if_neg (by omega), if_neg (by omega), if_neg (by omega), if_neg (by omega), if_neg (by omega)]
    have e0 := g0 (by omega)
    have e1 := g1 (by omega)
    have e2 := g2 (by omega)
    have e3 := g3 (by omega)
    have e4 := g4 (by omega)
    have e5 := g5 (by omega)
    have e6 := g6 (by omega)
    have e7 := g7 (by omega)
    omega
  · rw [show (2 : Int) ^ (7 - 1) = 64 from by decide]
    rw [if_neg (by omega), if_pos (by omega), if_neg (by omega), if_neg (by omega), if_neg (by omega), if_neg (by omega), if_neg (by omega), if_neg (by omega)]
    have e1 := g1 (by omega)
    have e2 := g2 (by omega)
    have e3 := g3 (by omega)
    have e4 := g4 (by omega)
    have e5 := g5 (by omega)
    have e6 := g6 (by omega)
    have e7 := g7 (by omega)
    omega
  · rw [show (2 : Int) ^ (7 - 2) = 32 from by decide]
    rw [if_neg (by omega), if_neg (by omega), if_pos (by omega), if_neg (by omega), if_neg (by omega), if_neg (by omega), if_neg (by omega), if_neg (by omega)]
    have e2 := g2 (by omega)
    have e3 := g3 (by omega)
    have e4 := g4 (by omega)
    have e5 := g5 (by omega)
    have e6 := g6 (by omega)
    have e7 := g7 (by omega)
    omega
  · rw [show (2 : Int) ^ (7 - 3) = 16 from by decide]
    rw [if_neg (by omega), if_neg (by omega), if_neg (by omega), if_pos (by omega), if_neg (by omega), if_neg (by omega), if_neg (by omega), if_neg (by omega)]
    have e3 := g3 (by omega)
    have e4 := g4 (by omega)
    have e5 := g5 (by omega)
    have e6 := g6 (by omega)
    have e7 := g7 (by omega)
    omega
  · rw [show (2 : Int) ^ (7 - 4) = 8 from by decide]
    rw [if_neg (by omega), if_neg (by omega), if_neg (by omega), if_neg (by omega), if_pos (by omega), if_neg (by omega), if_neg (by omega), if_neg (by omega)]
    have e4 := g4 (by omega)
    have e5 := g5 (by omega)
    have e6 := g6 (by omega)
    have e7 := g7 (by omega)
    omega
  · rw [show (2 : Int) ^ (7 - 5) = 4 from by decide]
    rw [if_neg (by omega), if_neg (by omega), if_neg (by omega), if_neg (by omega), if_neg (by omega), if_pos (by omega), if_neg (by omega), if_neg (by omega)]
    have e5 := g5 (by omega)
    have e6 := g6 (by omega)
    have e7 := g7 (by omega)
    omega
  · rw [show (2 : Int) ^ (7 - 6) = 2 from by decide]
    rw [if_neg (by omega), if_neg (by omega), if_neg (by omega), if_neg (by omega), if_neg (by omega), if_neg (by omega), if_pos (by omega), if_neg (by omega)]
    have e6 := g6 (by omega)
    have e7 := g7 (by omega)
    omega
  · rw [show (2 : Int) ^ (7 - 7) = 1 from by decide]
    rw [if_neg (by omega), if_neg (by omega), if_neg (by omega), if_neg (by omega), if_neg (by omega), if_neg (by omega), if_neg (by omega), if_pos (by omega)]
    have e7 := g7 (by omega)
    omega
theorem irem8 (n : Nat) : irem (n : Int) 8 = ((n % 8 : Nat) : Int) := by
  unfold irem; rw [Int.tmod_eq_emod_of_nonneg (by omega)]; omega
theorem iquo8 {n : Nat} (h : n ≤ 9223372036854775807) : iquo .i64 (n : Int) 8 = ((n / 8 : Nat) : Int) := by
  unfold iquo; rw [Int.tdiv_eq_ediv_of_nonneg (by omega), wrap_i64 (by omega) (by omega)]; omega
/-- A byte has nothing yet behind the last bit. -/
theorem byt_low {l : List Int} : byt l (l.length / 8) % 2 ^ (8 - l.length % 8) = 0 := by
  obtain ⟨k, hk⟩ : ∃ k, k = l.length / 8 := ⟨_, rfl⟩
  obtain ⟨r, hr⟩ : ∃ r, r = l.length % 8 := ⟨_, rfl⟩
  have hl : l.length = 8 * k + r := by omega
  have hr8 : r < 8 := by omega
  rw [← hk, ← hr]
  unfold byt
  have hg : ∀ j, r ≤ j → l.getD (8 * k + j) 0 = 0 := fun j hj => getD_ge (by omega)
  have g0 := hg 0; have g1 := hg 1; have g2 := hg 2; have g3 := hg 3; have g4 := hg 4; have g5 := hg 5; have g6 := hg 6; have g7 := hg 7
  rw [Nat.add_zero] at g0
  rcases (by omega : r = 0 ∨ r = 1 ∨ r = 2 ∨ r = 3 ∨ r = 4 ∨ r = 5 ∨ r = 6 ∨ r = 7) with rfl | rfl | rfl | rfl | rfl | rfl | rfl | rfl
  · have e0 := g0 (by omega); have e1 := g1 (by omega); have e2 := g2 (by omega); have e3 := g3 (by omega); have e4 := g4 (by omega); have e5 := g5 (by omega); have e6 := g6 (by omega); have e7 := g7 (by omega)
    rw [show (2 : Int) ^ (8 - 0) = 256 from by decide]; omega
  · have e1 := g1 (by omega); have e2 := g2 (by omega); have e3 := g3 (by omega); have e4 := g4 (by omega); have e5 := g5 (by omega); have e6 := g6 (by omega); have e7 := g7 (by omega)
    rw [show (2 : Int) ^ (8 - 1) = 128 from by decide]; omega
  · have e2 := g2 (by omega); have e3 := g3 (by omega); have e4 := g4 (by omega); have e5 := g5 (by omega); have e6 := g6 (by omega); have e7 := g7 (by omega)
    rw [show (2 : Int) ^ (8 - 2) = 64 from by decide]; omega
  · have e3 := g3 (by omega); have e4 := g4 (by omega); have e5 := g5 (by omega); have e6 := g6 (by omega); have e7 := g7 (by omega)
    rw [show (2 : Int) ^ (8 - 3) = 32 from by decide]; omega
  · have e4 := g4 (by omega); have e5 := g5 (by omega); have e6 := g6 (by omega); have e7 := g7 (by omega)
    rw [show (2 : Int) ^ (8 - 4) = 16 from by decide]; omega
  · have e5 := g5 (by omega); have e6 := g6 (by omega); have e7 := g7 (by omega)
    rw [show (2 : Int) ^ (8 - 5) = 8 from by decide]; omega
  · have e6 := g6 (by omega); have e7 := g7 (by omega)
    rw [show (2 : Int) ^ (8 - 6) = 4 from by decide]; omega
  · have e7 := g7 (by omega)
    rw [show (2 : Int) ^ (8 - 7) = 2 from by decide]; omega
theorem byt_end {l : List Int} (h : l.length % 8 = 0) : byt l (l.length / 8) = 0 := by
  unfold byt
  rw [getD_ge (by omega), getD_ge (by omega), getD_ge (by omega), getD_ge (by omega), getD_ge (by omega), getD_ge (by omega), getD_ge (by omega), getD_ge (by omega)]
  rfl
theorem ior_comm (k : IntKind) (a b : Int) : ior k a b = ior k b a := by unfold ior; rw [BitVec.or_comm]
/-- The room for one more bit. -/
def room (l : List Int) : List Int := (List.range (l.length / 8 + 1)).map (byt l)
theorem room_j1 {F : Nat} {l : List Int} (hl : Bit l) {x : Int} (hx : x = 0 ∨ x = 1) (hn : l.length ≤ 1000000) : M_bits_writer_bit_j1 F (l.length : Int) x (room l) = some (((l.length + 1 : Nat) : Int), pk (l ++ [x])) := by
  unfold M_bits_writer_bit_j1
  rw [iquo8 (by omega), irem8]
  have hg : (room l)[l.length / 8]? = some (byt l (l.length / 8)) := by simp [room]
  rw [idx_nat, hg]
  simp only [Option.bind_some]
  have hc : decide ((0 : Int) ≤ ((l.length % 8 : Nat) : Int)) = true := decide_eq_true (by omega)
  rw [hc]
  simp only [chk, if_true, lett, Int.toNat_natCast]
  have hb := byt_range hl (l.length / 8)
  have hr8 : l.length % 8 < 8 := Nat.mod_lt _ (by decide)
  have e1 : ishl .u64 x 7 = x * 128 := by
    have := ishl_u64 (a := x) (m := 7) (by decide)
    rw [show ((7 : Nat) : Int) = 7 from rfl] at this
    rw [this]
    rcases hx with rfl | rfl <;> decide
  have e2 : iconv .u8 (x * 128) = x * 128 := wrap_u8 (by omega) (by omega)
  have e3 : ishr .u8 (x * 128) ((l.length % 8 : Nat) : Int) = x * 2 ^ (7 - l.length % 8) := by
    rw [ishr_eq (by simp only [IntKind.bits]; omega)]
    have key : ∀ r : Fin 8, ((0 : Int) * 128 / 2 ^ r.val = 0 * 2 ^ (7 - r.val)) ∧ ((1 : Int) * 128 / 2 ^ r.val = 1 * 2 ^ (7 - r.val)) := by decide
    have := key ⟨l.length % 8, hr8⟩
    rcases hx with rfl | rfl
    · exact this.1
    · exact this.2
  have key2 : ∀ r : Fin 8, (1 : Int) ≤ 2 ^ (7 - r.val) ∧ (2 : Int) ^ (8 - r.val) = 2 * 2 ^ (7 - r.val) ∧ (2 : Int) ^ (7 - r.val) ≤ 128 ∧ (256 : Int) % 2 ^ (8 - r.val) = 0 ∧ (2 : Int) ^ (8 - r.val) ≤ 256 := by decide
  have hk2 := key2 ⟨l.length % 8, hr8⟩
  simp only at hk2
  have hat := byt_snoc_at (l := l) (x := x)
  have hb2 : Bit (l ++ [x]) := by
    intro y hy
    rcases List.mem_append.1 hy with h | h
    · exact hl y h
    · simp at h; subst h; exact hx
  have hbb := byt_range hb2 (l.length / 8)
  have e4 : ior .u8 (byt l (l.length / 8)) (x * 2 ^ (7 - l.length % 8)) = byt (l ++ [x]) (l.length / 8) := by
    rw [ior_comm, ior_add (m := 8 - l.length % 8) ?_ ?_ hb.1 byt_low rfl ?_]
    · rw [hat]; omega
    · rcases hx with rfl | rfl <;> omega
    · rcases hx with rfl | rfl <;> omega
    · simp only [IntKind.bits]
      rw [show (2 : Int) ^ 8 = 256 from by decide]
      omega
  rw [e1, e2, e3, e4, iadd_i64 (by omega) (by omega)]
  congr 2
  unfold room pk
  have hlen : ((l ++ [x]).length + 7) / 8 = l.length / 8 + 1 := by simp; omega
  rw [hlen]
  apply List.ext_getElem?
  intro k
  rw [List.getElem?_set]
  by_cases hk : l.length / 8 = k
  · subst hk; simp
  · rw [if_neg hk]
    simp only [List.getElem?_map]
    by_cases h3 : k < l.length / 8 + 1
    · rw [List.getElem?_range h3]
      simp only [Option.map_some]
      rw [byt_snoc_other (fun e => hk e.symm)]
    · rw [List.getElem?_eq_none (by simpa using h3)]
      rfl
theorem bit_eq {F : Nat} {l : List Int} (hl : Bit l) {x : Int} (hx : x = 0 ∨ x = 1) (hn : l.length ≤ 1000000) : M_bits_writer_bit F (l.length : Int) (pk l) x = some (((l.length + 1 : Nat) : Int), pk (l ++ [x])) := by
  unfold M_bits_writer_bit
  rw [irem8]
  by_cases h : l.length % 8 = 0
  · have h1 : ((((l.length % 8 : Nat) : Int) : Int) == 0) = true := by simp [h]
    simp only [h1, if_true]
    rw [app_eq (by simp [pk]; omega)]
    simp only [Option.bind_some]
    have : pk l ++ [0] = room l := by
      unfold pk room
      rw [show (l.length + 7) / 8 = l.length / 8 from by omega, List.range_succ, List.map_append]
      simp [byt_end h]
    rw [this]
    exact room_j1 hl hx hn
  · have h1 : ((((l.length % 8 : Nat) : Int) : Int) == 0) = false := by simp; omega
    simp only [h1, Bool.false_eq_true, if_false]
    have : pk l = room l := by
      unfold pk room
      rw [show (l.length + 7) / 8 = l.length / 8 + 1 from by omega]
    rw [this]
    exact room_j1 hl hx hn
def bitAt (b : List Int) (i : Nat) : Int := b.getD (i / 8) 0 / 2 ^ (7 - i % 8) % 2
def bl (b : List Int) (n : Nat) : List Int := (List.range n).map (bitAt b)
theorem bitAt_bit (b : List Int) (i : Nat) : bitAt b i = 0 ∨ bitAt b i = 1 := by unfold bitAt; omega
theorem bl_bit (b : List Int) (n : Nat) : Bit (bl b n) := by
  intro x hx
  obtain ⟨i, _, rfl⟩ := List.mem_map.1 hx
  exact bitAt_bit b i
theorem bl_len (b : List Int) (n : Nat) : (bl b n).length = n := by simp [bl]
def U8s (l : List Int) : Prop := ∀ n ∈ l, 0 ≤ n ∧ n < 256
theorem at_eq {F : Nat} {n : Int} {b : List Int} (hb : U8s b) {i : Nat} (hi : i / 8 < b.length) (hm : i ≤ 1000000) : M_bits_At F n b (i : Int) = some (bitAt b i) := by
  unfold M_bits_At
  rw [iquo8 (by omega), irem8, idx_nat]
  have hg : b[i / 8]? = some b[i / 8] := by simp [hi]
  rw [hg]
  simp only [Option.bind_some]
  have e1 : isub .i64 7 ((i % 8 : Nat) : Int) = ((7 - i % 8 : Nat) : Int) := by rw [isub_i64 (by omega) (by omega)]; omega
  rw [e1]
  have hc : decide ((0 : Int) ≤ ((7 - i % 8 : Nat) : Int)) = true := decide_eq_true (by omega)
  rw [hc]
  simp only [chk, if_true, lett]
  have hx := hb b[i / 8] (List.getElem_mem hi)
  rw [ishr_eq (by simp only [IntKind.bits]; omega)]
  have hp : (1 : Int) ≤ 2 ^ (7 - i % 8) := by
    have key : ∀ r : Fin 8, (1 : Int) ≤ 2 ^ (7 - r.val) := by decide
    exact key ⟨i % 8, Nat.mod_lt _ (by decide)⟩
  have h1 : 0 ≤ b[i / 8] / 2 ^ (7 - i % 8) := Int.ediv_nonneg hx.1 (by omega)
  have h2 : b[i / 8] / 2 ^ (7 - i % 8) ≤ b[i / 8] := Int.ediv_le_self _ hx.1
  have e2 : iconv .u64 (b[i / 8] / 2 ^ (7 - i % 8)) = b[i / 8] / 2 ^ (7 - i % 8) := wrap_u64 h1 (by omega)
  rw [e2]
  have e3 := iand_mask (k := .u64) (a := b[i / 8] / 2 ^ (7 - i % 8)) (m := 1) h1 (by simp only [IntKind.bits]; rw [show (2 : Int) ^ 64 = 18446744073709551616 from by decide]; omega) (by decide) rfl
  rw [show ((2 ^ 1 - 1 : Nat) : Int) = 1 from rfl, show (2 : Int) ^ 1 = 2 from rfl] at e3
  rw [e3]
  unfold bitAt
  simp [List.getD, hg]
theorem bl_succ (b : List Int) (n : Nat) : bl b (n + 1) = bl b n ++ [bitAt b n] := by simp [bl, List.range_succ]
/-- All places, one behind the other, written behind what is there. -/
theorem places_l {F : Nat} {n : Int} {b : List Int} (hb : U8s b) {yy : (Int × List Int) → Int → Option ((Int × List Int) ⊕ Empty)} (hy : ∀ (l : List Int) x, Bit l → (x = 0 ∨ x = 1) → l.length ≤ 100000 → yy ((l.length : Int), pk l) x = some (.inl (((l.length + 1 : Nat) : Int), pk (l ++ [x])))) {to : Nat} (ht : to ≤ 8 * b.length) (hm : to ≤ 10000) :
    ∀ (k i : Nat) (l : List Int), to < k + i → i ≤ to → Bit l → l.length + (to - i) ≤ 100000 →
      M_bits_places_1_l1 F yy (to : Int) n b k ((i : Int), ((l.length : Int), pk l)) = some (.inl (((l.length + (to - i) : Nat) : Int), pk (l ++ (bl b to).drop i)))
  | 0, i, l, h, hi, _, _ => by omega
  | k + 1, i, l, h, hi, hl, hc => by
    have hstep : M_bits_places_1_l1 F yy (to : Int) n b (k + 1) ((i : Int), ((l.length : Int), pk l)) = M_bits_places_1_b1 F yy (to : Int) n b (M_bits_places_1_l1 F yy (to : Int) n b k) (i : Int) ((l.length : Int), pk l) := rfl
    rw [hstep]
    unfold M_bits_places_1_b1
    by_cases hlt : i < to
    · have h1 : (i : Int) < (to : Int) := by omega
      simp only [h1, decide_true, if_true]
      rw [at_eq hb (by omega) (by omega)]
      simp only [Option.bind_some]
      have hx := bitAt_bit b i
      rw [hy l _ hl hx (by omega)]
      simp only [Option.bind_some, Sum.elim_inl]
      rw [iadd_i64 (by omega) (by omega), show (i : Int) + 1 = ((i + 1 : Nat) : Int) from by omega]
      have hl2 : Bit (l ++ [bitAt b i]) := by
        intro y hy2
        rcases List.mem_append.1 hy2 with h | h
        · exact hl y h
        · simp at h; subst h; exact hx
      have := places_l (F := F) (n := n) hb hy ht hm k (i + 1) (l ++ [bitAt b i]) (by omega) (by omega) hl2 (by simp; omega)
      rw [show (l ++ [bitAt b i]).length = l.length + 1 from by simp] at this
      rw [this]
      have hd : (bl b to).drop i = bitAt b i :: (bl b to).drop (i + 1) := by
        rw [List.drop_eq_getElem_cons (by rw [bl_len]; exact hlt)]
        congr 1
        simp [bl]
      rw [hd, List.append_assoc, show l.length + 1 + (to - (i + 1)) = l.length + (to - i) from by omega]
      rfl
    · have h1 : ¬ (i : Int) < (to : Int) := by omega
      simp only [h1, decide_false, Bool.false_eq_true, if_false]
      rw [List.drop_eq_nil_of_le (by rw [bl_len]; omega), List.append_nil, show l.length + (to - i) = l.length from by omega]
structure Ok (n : Nat) (b : List Int) : Prop where
  max : n ≤ 8192
  len : b.length = (n + 7) / 8
  low : n % 8 ≠ 0 → b.getD (n / 8) 0 % 2 ^ (8 - n % 8) = 0
theorem bl_getD {b : List Int} {n i : Nat} : (bl b n).getD i 0 = if i < n then bitAt b i else 0 := by
  by_cases h : i < n
  · rw [if_pos h]; simp [bl, List.getD, h]
  · rw [if_neg h]; exact getD_ge (by rw [bl_len]; omega)
theorem bits8 {x : Int} (h0 : 0 ≤ x) (h1 : x < 256) : x / 128 % 2 * 128 + x / 64 % 2 * 64 + x / 32 % 2 * 32 + x / 16 % 2 * 16 + x / 8 % 2 * 8 + x / 4 % 2 * 4 + x / 2 % 2 * 2 + x / 1 % 2 = x := by omega
theorem bitAt_8 (b : List Int) (k : Nat) : bitAt b (8 * k) = b.getD k 0 / 128 % 2 ∧ bitAt b (8 * k + 1) = b.getD k 0 / 64 % 2 ∧ bitAt b (8 * k + 2) = b.getD k 0 / 32 % 2 ∧ bitAt b (8 * k + 3) = b.getD k 0 / 16 % 2 ∧
    bitAt b (8 * k + 4) = b.getD k 0 / 8 % 2 ∧ bitAt b (8 * k + 5) = b.getD k 0 / 4 % 2 ∧ bitAt b (8 * k + 6) = b.getD k 0 / 2 % 2 ∧ bitAt b (8 * k + 7) = b.getD k 0 / 1 % 2 := by
  unfold bitAt
  rw [show 8 * k / 8 = k from by omega, show (8 * k + 1) / 8 = k from by omega, show (8 * k + 2) / 8 = k from by omega, show (8 * k + 3) / 8 = k from by omega, show (8 * k + 4) / 8 = k from by omega, show (8 * k + 5) / 8 = k from by omega, show (8 * k + 6) / 8 = k from by omega, show (8 * k + 7) / 8 = k from by omega,
    show 8 * k % 8 = 0 from by omega, show (8 * k + 1) % 8 = 1 from by omega, show (8 * k + 2) % 8 = 2 from by omega, show (8 * k + 3) % 8 = 3 from by omega, show (8 * k + 4) % 8 = 4 from by omega, show (8 * k + 5) % 8 = 5 from by omega, show (8 * k + 6) % 8 = 6 from by omega, show (8 * k + 7) % 8 = 7 from by omega]
  exact ⟨rfl, rfl, rfl, rfl, rfl, rfl, rfl, rfl⟩
theorem byt_bl {n : Nat} {b : List Int} (hb : U8s b) (h : Ok n b) {k : Nat} (hk : k < (n + 7) / 8) : byt (bl b n) k = b.getD k 0 := by
  have hx : 0 ≤ b.getD k 0 ∧ b.getD k 0 < 256 := by
    have hlt : k < b.length := by rw [h.len]; exact hk
    have := hb b[k] (List.getElem_mem hlt)
    simpa [List.getD, hlt] using this
  obtain ⟨c0, c1, c2, c3, c4, c5, c6, c7⟩ := bitAt_8 b k
  unfold byt
  simp only [bl_getD]
  rw [c0, c1, c2, c3, c4, c5, c6, c7]
  by_cases hf : 8 * k + 8 ≤ n
  · rw [if_pos (by omega), if_pos (by omega), if_pos (by omega), if_pos (by omega), if_pos (by omega), if_pos (by omega), if_pos (by omega), if_pos (by omega)]
    exact bits8 hx.1 hx.2
  · have hkn : n / 8 = k := by omega
    obtain ⟨r, hr⟩ : ∃ r, r = n % 8 := ⟨_, rfl⟩
    have hn : n = 8 * k + r := by omega
    have hlow := h.low (by omega)
    rw [hkn, ← hr] at hlow
    generalize b.getD k 0 = x at hx hlow
    rcases (by omega : r = 1 ∨ r = 2 ∨ r = 3 ∨ r = 4 ∨ r = 5 ∨ r = 6 ∨ r = 7) with rfl | rfl | rfl | rfl | rfl | rfl | rfl
    · rw [if_pos (by omega), if_neg (by omega), if_neg (by omega), if_neg (by omega), if_neg (by omega), if_neg (by omega), if_neg (by omega), if_neg (by omega)]
      rw [show (2 : Int) ^ (8 - 1) = 128 from by decide] at hlow
      omega
    · rw [if_pos (by omega), if_pos (by omega), if_neg (by omega), if_neg (by omega), if_neg (by omega), if_neg (by omega), if_neg (by omega), if_neg (by omega)]
      rw [show (2 : Int) ^ (8 - 2) = 64 from by decide] at hlow
      omega
    · rw [if_pos (by omega), if_pos (by omega), if_pos (by omega), if_neg (by omega), if_neg (by omega), if_neg (by omega), if_neg (by omega), if_neg (by omega)]
      rw [show (2 : Int) ^ (8 - 3) = 32 from by decide] at hlow
      omega
    · rw [if_pos (by omega), if_pos (by omega), if_pos (by omega), if_pos (by omega), if_neg (by omega), if_neg (by omega), if_neg (by omega), if_neg (by omega)]
      rw [show (2 : Int) ^ (8 - 4) = 16 from by decide] at hlow
      omega
    · rw [if_pos (by omega), if_pos (by omega), if_pos (by omega), if_pos (by omega), if_pos (by omega), if_neg (by omega), if_neg (by omega), if_neg (by omega)]
      rw [show (2 : Int) ^ (8 - 5) = 8 from by decide] at hlow
      omega
    · rw [if_pos (by omega), if_pos (by omega), if_pos (by omega), if_pos (by omega), if_pos (by omega), if_pos (by omega), if_neg (by omega), if_neg (by omega)]
      rw [show (2 : Int) ^ (8 - 6) = 4 from by decide] at hlow
      omega
    · rw [if_pos (by omega), if_pos (by omega), if_pos (by omega), if_pos (by omega), if_pos (by omega), if_pos (by omega), if_pos (by omega), if_neg (by omega)]
      rw [show (2 : Int) ^ (8 - 7) = 2 from by decide] at hlow
      omega
theorem pk_bl {n : Nat} {b : List Int} (hb : U8s b) (h : Ok n b) : pk (bl b n) = b := by
  unfold pk
  rw [bl_len]
  apply List.ext_getElem?
  intro k
  by_cases hk : k < (n + 7) / 8
  · rw [List.getElem?_map, List.getElem?_range hk]
    simp only [Option.map_some]
    rw [byt_bl hb h hk]
    have hlt : k < b.length := by rw [h.len]; exact hk
    simp [List.getD, hlt]
  · rw [List.getElem?_eq_none (by simpa using hk), List.getElem?_eq_none (by rw [h.len]; omega)]
/-- What 'Check' tells. -/
def chkOf (n : Int) (b : List Int) : Int :=
  if n < 0 ∨ 8192 < n then 3 else if (b.length : Int) ≠ (n + 7) / 8 then 1 else if n % 8 ≠ 0 ∧ b.getD (n.toNat / 8) 0 % 2 ^ (8 - n.toNat % 8) ≠ 0 then 1 else 0
theorem chkOf_ok {n : Int} {b : List Int} (h : chkOf n b = 0) : ∃ m : Nat, n = m ∧ Ok m b := by
  unfold chkOf at h
  split at h
  · simp at h
  · rename_i h1
    split at h
    · simp at h
    · rename_i h2
      split at h
      · simp at h
      · rename_i h3
        obtain ⟨m, rfl⟩ := Int.eq_ofNat_of_zero_le (show 0 ≤ n by omega)
        refine ⟨m, rfl, by omega, by omega, fun hm => ?_⟩
        simp only [Int.toNat_natCast] at h3
        by_cases hz : b.getD (m / 8) 0 % 2 ^ (8 - m % 8) = 0
        · exact hz
        · exact absurd ⟨by omega, hz⟩ h3
theorem check_eq {F : Nat} {n : Int} {b : List Int} (hb : U8s b) (h1 : -9223372036854775808 ≤ n) (h2 : n < 9223372036854775808) (hm : b.length ≤ 9223372036854775807) : M_bits_Check F n b = some (chkOf n b) := by
  unfold M_bits_Check chkOf
  by_cases c1 : n < 0 ∨ 8192 < n
  · have : (decide (n < 0) || decide (8192 < n)) = true := by simpa using c1
    rw [if_pos this, if_pos c1]
  · have : (decide (n < 0) || decide (8192 < n)) = false := by simpa using c1
    rw [this, if_neg c1]
    simp only [Bool.false_eq_true, if_false]
    obtain ⟨m, rfl⟩ := Int.eq_ofNat_of_zero_le (show 0 ≤ n by omega)
    have e1 : iquo .i64 (iadd .i64 (m : Int) 7) 8 = ((m : Int) + 7) / 8 := by
      rw [iadd_i64 (by omega) (by omega), show (m : Int) + 7 = ((m + 7 : Nat) : Int) from by omega, iquo8 (by omega)]
      omega
    rw [e1, irem8]
    by_cases c2 : (b.length : Int) ≠ ((m : Int) + 7) / 8
    · have : ((b.length : Int) != ((m : Int) + 7) / 8) = true := by simpa using c2
      rw [if_pos this, if_pos c2]
    · have : ((b.length : Int) != ((m : Int) + 7) / 8) = false := by simpa using c2
      rw [this, if_neg c2]
      simp only [Bool.false_eq_true, if_false]
      by_cases c3 : m % 8 = 0
      · have : ((((m % 8 : Nat) : Int)) != 0) = false := by simp [c3]
        have hn : ¬ ((m : Int) % 8 ≠ 0 ∧ b.getD ((m : Int).toNat / 8) 0 % 2 ^ (8 - (m : Int).toNat % 8) ≠ 0) := fun h => h.1 (by omega)
        rw [this, if_neg hn]
        simp [M_bits_Check_j2]
      · have : ((((m % 8 : Nat) : Int)) != 0) = true := by simp; omega
        rw [this]
        simp only [if_true]
        have hlen : b.length = m / 8 + 1 := by omega
        have e2 : isub .i64 (b.length : Int) 1 = ((m / 8 : Nat) : Int) := by rw [isub_i64 (by omega) (by omega)]; omega
        have hg : b[m / 8]? = some b[m / 8] := by simp [hlen]
        rw [e2, idx_nat, hg]
        simp only [Option.bind_some]
        have hc : decide ((0 : Int) ≤ ((m % 8 : Nat) : Int)) = true := decide_eq_true (by omega)
        rw [hc]
        simp only [chk, if_true]
        have hx := hb b[m / 8] (List.getElem_mem (by omega))
        have hgd : b.getD (m / 8) 0 = b[m / 8] := by simp [List.getD, hg]
        rw [Int.toNat_natCast, hgd]
        generalize b[m / 8] = x at hx
        have e3 : (ishl .u8 x ((m % 8 : Nat) : Int) != 0) = decide (x % 2 ^ (8 - m % 8) ≠ 0) := by
          have key : ishl .u8 x ((m % 8 : Nat) : Int) = (x * 2 ^ (m % 8)) % 256 := by
            unfold ishl
            have h : min (((m % 8 : Nat) : Int).toNat) (IntKind.bits .u8) = m % 8 := by simp [IntKind.bits]; omega
            rw [h, wrap_u8_mod]
          rw [key]
          rcases (by omega : m % 8 = 1 ∨ m % 8 = 2 ∨ m % 8 = 3 ∨ m % 8 = 4 ∨ m % 8 = 5 ∨ m % 8 = 6 ∨ m % 8 = 7) with h | h | h | h | h | h | h <;> rw [h]
          · rw [show (2 : Int) ^ 1 = 2 from rfl, show (2 : Int) ^ (8 - 1) = 128 from by decide]; by_cases hz : x % 128 = 0 <;> simp [hz] <;> omega
          · rw [show (2 : Int) ^ 2 = 4 from rfl, show (2 : Int) ^ (8 - 2) = 64 from by decide]; by_cases hz : x % 64 = 0 <;> simp [hz] <;> omega
          · rw [show (2 : Int) ^ 3 = 8 from rfl, show (2 : Int) ^ (8 - 3) = 32 from by decide]; by_cases hz : x % 32 = 0 <;> simp [hz] <;> omega
          · rw [show (2 : Int) ^ 4 = 16 from by decide]; try rw [show (2 : Int) ^ (8 - 4) = 16 from by decide]
            by_cases hz : x % 16 = 0 <;> simp [hz] <;> omega
          · rw [show (2 : Int) ^ 5 = 32 from by decide, show (2 : Int) ^ (8 - 5) = 8 from by decide]; by_cases hz : x % 8 = 0 <;> simp [hz] <;> omega
          · rw [show (2 : Int) ^ 6 = 64 from by decide, show (2 : Int) ^ (8 - 6) = 4 from by decide]; by_cases hz : x % 4 = 0 <;> simp [hz] <;> omega
          · rw [show (2 : Int) ^ 7 = 128 from by decide, show (2 : Int) ^ (8 - 7) = 2 from by decide]; by_cases hz : x % 2 = 0 <;> simp [hz] <;> omega
        rw [e3]
        unfold M_bits_Check_j2
        by_cases hz : x % 2 ^ (8 - m % 8) = 0
        · rw [if_neg (by simp [hz]), if_neg (by simp [hz])]
        · rw [if_pos (by simp [hz]), if_pos ⟨by omega, hz⟩]
theorem clone_eq {F : Nat} {x : List Int} (h : x.length ≤ 1000000) : M_slices_Clone_byte_byte F x = some x := by
  unfold M_slices_Clone_byte_byte
  rw [app_eq (by simp; omega)]
  rfl
theorem own_eq {F : Nat} {n : Int} {b : List Int} (h : b.length ≤ 1000000) : M_bits_own F n b = some (n, b) := by
  unfold M_bits_own
  rw [clone_eq h]
  rfl
theorem both_eq {F : Nat} (hF : 20000 ≤ F) {n m : Nat} {a b : List Int} (ha : U8s a) (hb : U8s b) (oa : Ok n a) (ob : Ok m b) : M_bits_Both F n a m b = some (((n + m : Nat) : Int), pk (bl a n ++ bl b m)) := by
  unfold M_bits_Both
  have hal : a.length ≤ 1000000 := by rw [oa.len]; have := oa.max; omega
  rw [own_eq hal]
  simp only [Option.bind_some, M_bits_places, M_bits_places_1]
  have hm := ob.max
  have hn := oa.max
  have := places_l (F := F) (n := (m : Int)) hb (yy := fun (p : Int × List Int) (x53 : Int) => M_bits_Both_r2 F p.1 p.2 x53) (fun l x hl hx hlen => by
    simp only [M_bits_Both_r2]
    rw [bit_eq hl hx (by omega)]
    rfl) (to := m) (by rw [ob.len]; omega) (by omega) F 0 (bl a n) (by omega) (by omega) (bl_bit a n) (by rw [bl_len]; omega)
  rw [bl_len, pk_bl ha oa, List.drop_zero, Nat.sub_zero] at this
  rw [show ((0 : Nat) : Int) = 0 from rfl] at this
  have h2 : M_bits_places_1_l1 F (fun (x : Int × List Int) (x53 : Int) => match x with | (x45, x48) => M_bits_Both_r2 F x45 x48 x53) (m : Int) (m : Int) b F (0, ((n : Int), a)) = some (.inl (((n + m : Nat) : Int), pk (bl a n ++ bl b m))) := this
  rw [h2]
  rfl
def I64 (n : Int) : Prop := -9223372036854775808 ≤ n ∧ n < 9223372036854775808
theorem pk_getD {l : List Int} {k : Nat} (hk : k < (l.length + 7) / 8) : (pk l).getD k 0 = byt l k := by
  unfold pk
  simp [List.getD, hk]
theorem pk_u8 {l : List Int} (h : Bit l) : U8s (pk l) := by
  intro x hx
  obtain ⟨k, _, rfl⟩ := List.mem_map.1 hx
  exact byt_range h k
theorem pk_len (l : List Int) : (pk l).length = (l.length + 7) / 8 := by simp [pk]
theorem ok_pk {l : List Int} (hm : l.length ≤ 8192) : Ok l.length (pk l) where
  max := hm
  len := pk_len l
  low := fun h => by
    rw [pk_getD (by omega)]
    exact byt_low
theorem bitAt_pk {l : List Int} (h : Bit l) {i : Nat} (hi : i < l.length) : bitAt (pk l) i = l.getD i 0 := by
  obtain ⟨k, hk⟩ : ∃ k, k = i / 8 := ⟨_, rfl⟩
  obtain ⟨r, hr⟩ : ∃ r, r = i % 8 := ⟨_, rfl⟩
  have hl : i = 8 * k + r := by omega
  have hr8 : r < 8 := by omega
  obtain ⟨c0, c1, c2, c3, c4, c5, c6, c7⟩ := bitAt_8 (pk l) k
  have hb : (pk l).getD k 0 = byt l k := pk_getD (by omega)
  rw [hb] at c0 c1 c2 c3 c4 c5 c6 c7
  have hbd : ∀ q, 0 ≤ l.getD q 0 ∧ l.getD q 0 ≤ 1 := fun q => by have := h.getD q; omega
  have h0 := hbd (8 * k); have h1 := hbd (8 * k + 1); have h2 := hbd (8 * k + 2); have h3 := hbd (8 * k + 3)
  have h4 := hbd (8 * k + 4); have h5 := hbd (8 * k + 5); have h6 := hbd (8 * k + 6); have h7 := hbd (8 * k + 7)
  clear hbd hb
  unfold byt at c0 c1 c2 c3 c4 c5 c6 c7
  rcases (by omega : r = 0 ∨ r = 1 ∨ r = 2 ∨ r = 3 ∨ r = 4 ∨ r = 5 ∨ r = 6 ∨ r = 7) with rfl | rfl | rfl | rfl | rfl | rfl | rfl | rfl
  · rw [hl, Nat.add_zero, c0]; clear c0 c1 c2 c3 c4 c5 c6 c7; generalize l.getD (8 * k) 0 = y0 at *; generalize l.getD (8 * k + 1) 0 = y1 at *; generalize l.getD (8 * k + 2) 0 = y2 at *; generalize l.getD (8 * k + 3) 0 = y3 at *; generalize l.getD (8 * k + 4) 0 = y4 at *; generalize l.getD (8 * k + 5) 0 = y5 at *; generalize l.getD (8 * k + 6) 0 = y6 at *; generalize l.getD (8 * k + 7) 0 = y7 at *; clear h hi hl hr hk hr8; omega
  · rw [hl, c1]; clear c0 c1 c2 c3 c4 c5 c6 c7; generalize l.getD (8 * k) 0 = y0 at *; generalize l.getD (8 * k + 1) 0 = y1 at *; generalize l.getD (8 * k + 2) 0 = y2 at *; generalize l.getD (8 * k + 3) 0 = y3 at *; generalize l.getD (8 * k + 4) 0 = y4 at *; generalize l.getD (8 * k + 5) 0 = y5 at *; generalize l.getD (8 * k + 6) 0 = y6 at *; generalize l.getD (8 * k + 7) 0 = y7 at *; clear h hi hl hr hk hr8; omega
  · rw [hl, c2]; clear c0 c1 c2 c3 c4 c5 c6 c7; generalize l.getD (8 * k) 0 = y0 at *; generalize l.getD (8 * k + 1) 0 = y1 at *; generalize l.getD (8 * k + 2) 0 = y2 at *; generalize l.getD (8 * k + 3) 0 = y3 at *; generalize l.getD (8 * k + 4) 0 = y4 at *; generalize l.getD (8 * k + 5) 0 = y5 at *; generalize l.getD (8 * k + 6) 0 = y6 at *; generalize l.getD (8 * k + 7) 0 = y7 at *; clear h hi hl hr hk hr8; omega
  · rw [hl, c3]; clear c0 c1 c2 c3 c4 c5 c6 c7; generalize l.getD (8 * k) 0 = y0 at *; generalize l.getD (8 * k + 1) 0 = y1 at *; generalize l.getD (8 * k + 2) 0 = y2 at *; generalize l.getD (8 * k + 3) 0 = y3 at *; generalize l.getD (8 * k + 4) 0 = y4 at *; generalize l.getD (8 * k + 5) 0 = y5 at *; generalize l.getD (8 * k + 6) 0 = y6 at *; generalize l.getD (8 * k + 7) 0 = y7 at *; clear h hi hl hr hk hr8; omega
  · rw [hl, c4]; clear c0 c1 c2 c3 c4 c5 c6 c7; generalize l.getD (8 * k) 0 = y0 at *; generalize l.getD (8 * k + 1) 0 = y1 at *; generalize l.getD (8 * k + 2) 0 = y2 at *; generalize l.getD (8 * k + 3) 0 = y3 at *; generalize l.getD (8 * k + 4) 0 = y4 at *; generalize l.getD (8 * k + 5) 0 = y5 at *; generalize l.getD (8 * k + 6) 0 = y6 at *; generalize l.getD (8 * k + 7) 0 = y7 at *; clear h hi hl hr hk hr8; omega
  · rw [hl, c5]; clear c0 c1 c2 c3 c4 c5 c6 c7; generalize l.getD (8 * k) 0 = y0 at *; generalize l.getD (8 * k + 1) 0 = y1 at *; generalize l.getD (8 * k + 2) 0 = y2 at *; generalize l.getD (8 * k + 3) 0 = y3 at *; generalize l.getD (8 * k + 4) 0 = y4 at *; generalize l.getD (8 * k + 5) 0 = y5 at *; generalize l.getD (8 * k + 6) 0 = y6 at *; generalize l.getD (8 * k + 7) 0 = y7 at *; clear h hi hl hr hk hr8; omega
  · rw [hl, c6]; clear c0 c1 c2 c3 c4 c5 c6 c7; generalize l.getD (8 * k) 0 = y0 at *; generalize l.getD (8 * k + 1) 0 = y1 at *; generalize l.getD (8 * k + 2) 0 = y2 at *; generalize l.getD (8 * k + 3) 0 = y3 at *; generalize l.getD (8 * k + 4) 0 = y4 at *; generalize l.getD (8 * k + 5) 0 = y5 at *; generalize l.getD (8 * k + 6) 0 = y6 at *; generalize l.getD (8 * k + 7) 0 = y7 at *; clear h hi hl hr hk hr8; omega
  · rw [hl, c7]; clear c0 c1 c2 c3 c4 c5 c6 c7; generalize l.getD (8 * k) 0 = y0 at *; generalize l.getD (8 * k + 1) 0 = y1 at *; generalize l.getD (8 * k + 2) 0 = y2 at *; generalize l.getD (8 * k + 3) 0 = y3 at *; generalize l.getD (8 * k + 4) 0 = y4 at *; generalize l.getD (8 * k + 5) 0 = y5 at *; generalize l.getD (8 * k + 6) 0 = y6 at *; generalize l.getD (8 * k + 7) 0 = y7 at *; clear h hi hl hr hk hr8; omega
theorem bl_pk {l : List Int} (h : Bit l) : bl (pk l) l.length = l := by
  apply List.ext_getElem?
  intro i
  by_cases hi : i < l.length
  · have h1 : (bl (pk l) l.length)[i]? = some (bitAt (pk l) i) := by simp [bl, hi]
    rw [h1, bitAt_pk h hi]
    simp [List.getD, hi]
  · rw [List.getElem?_eq_none (by rw [bl_len]; omega), List.getElem?_eq_none (by omega)]
theorem same_l (F : Nat) {xs ys : List Int} (hl : xs.length = ys.length) (hm : xs.length ≤ 9223372036854775807) : ∀ (k i : Nat), xs.length < k + i → i ≤ xs.length →
    M_R_SameBytes_l3 F xs ys k (i : Int) = some (decide (xs.drop i = ys.drop i))
  | 0, i, h, _ => by omega
  | k + 1, i, h, hi => by
    show M_R_SameBytes_b3 F xs ys (M_R_SameBytes_l3 F xs ys k) i = _
    unfold M_R_SameBytes_b3
    by_cases hlt : i < xs.length
    · have hlt' : (i : Int) < (xs.length : Int) := by omega
      have hlt2 : i < ys.length := by omega
      have hg : xs[i]? = some xs[i] := by simp [hlt]
      have hg2 : ys[i]? = some ys[i] := by simp [hlt2]
      simp only [hlt', decide_true, if_true, idx_nat, hg, hg2, Option.bind_some]
      have e : (xs.drop i = ys.drop i) ↔ (xs[i] = ys[i] ∧ xs.drop (i + 1) = ys.drop (i + 1)) := by
        rw [List.drop_eq_getElem_cons hlt, List.drop_eq_getElem_cons hlt2, List.cons.injEq]
      simp only [e]
      by_cases he : xs[i] = ys[i]
      · simp only [he, bne_self_eq_false, Bool.false_eq_true, if_false, true_and]
        rw [iadd_i64 (by omega) (by omega), show (i : Int) + 1 = ((i + 1 : Nat) : Int) from by omega, same_l F hl hm k (i + 1) (by omega) (by omega)]
      · have : (xs[i] != ys[i]) = true := by simpa using he
        simp only [this, if_true, he, false_and, decide_false]
    · have hlt' : ¬ (i : Int) < (xs.length : Int) := by omega
      simp only [hlt', decide_false, Bool.false_eq_true, if_false]
      rw [List.drop_eq_nil_of_le (by omega), List.drop_eq_nil_of_le (by omega)]
      rfl
theorem sameBytes_eq {F : Nat} {xs ys : List Int} (hF : xs.length < F) (hm : xs.length ≤ 9223372036854775807) : M_R_SameBytes F xs ys = some (decide (xs = ys)) := by
  unfold M_R_SameBytes
  by_cases hl : xs.length = ys.length
  · have : (((xs.length : Int) : Int) != (ys.length : Int)) = false := by simp [hl]
    simp only [this, Bool.false_eq_true, if_false]
    have := same_l F hl hm F 0 (by omega) (by omega)
    simpa using this
  · have : (((xs.length : Int) : Int) != (ys.length : Int)) = true := by simp; omega
    simp only [this, if_true]
    have : xs ≠ ys := fun e => hl (by rw [e])
    simp [this]
theorem sameBits_eq {F : Nat} {n m : Int} {xs ys : List Int} (hF : xs.length < F) (hm : xs.length ≤ 9223372036854775807) : M_R_SameBits F n xs m ys = some (decide (n = m ∧ xs = ys)) := by
  unfold M_R_SameBits
  by_cases h : n = m
  · have hb : (n == m) = true := by simp [h]
    rw [if_pos hb, sameBytes_eq hF hm]
    simp [M_R_SameBits_j1, h]
  · have hb : (n == m) = false := by simpa using h
    rw [hb]
    simp [M_R_SameBits_j1, h]
theorem bit_app {l k : List Int} (h : Bit l) (h2 : Bit k) : Bit (l ++ k) := by
  intro x hx
  rcases List.mem_append.1 hx with h3 | h3
  · exact h x h3
  · exact h2 x h3
theorem two64 : (2 : Nat) ^ 64 = 18446744073709551616 := by decide
theorem ishr_n {n k : Nat} (hn : n < 18446744073709551616) : ishr .u64 (n : Int) (k : Int) = ((n / 2 ^ k : Nat) : Int) := by
  unfold ishr
  rw [Int.fdiv_eq_ediv_of_nonneg _ (by exact_mod_cast Nat.zero_le _), Int.toNat_natCast]
  simp only [IntKind.bits]
  by_cases h : k ≤ 64
  · rw [Nat.min_eq_left h]; norm_cast
  · rw [Nat.min_eq_right (by omega)]
    have h1 : n / 2 ^ 64 = 0 := Nat.div_eq_of_lt (by omega)
    have h2 : n / 2 ^ k = 0 := Nat.div_eq_of_lt (Nat.lt_of_lt_of_le hn (by rw [← two64]; exact Nat.pow_le_pow_right (by decide) (by omega)))
    rw [h2]
    have : ((n : Int) / 2 ^ 64) = ((n / 2 ^ 64 : Nat) : Int) := by norm_cast
    rw [this, h1]
theorem iand1_n {n : Nat} (hn : n < 18446744073709551616) : iand .u64 (n : Int) 1 = ((n % 2 : Nat) : Int) := by
  have e := iand_mask (k := .u64) (a := (n : Int)) (m := 1) (by omega) (by simp only [IntKind.bits]; rw [show (2 : Int) ^ 64 = 18446744073709551616 from by decide]; omega) (by decide) rfl
  rw [show ((2 ^ 1 - 1 : Nat) : Int) = 1 from rfl, show (2 : Int) ^ 1 = 2 from rfl] at e
  rw [e]; omega
theorem ishl_n {n k : Nat} (hk : k ≤ 64) : ishl .u64 (n : Int) (k : Int) = ((n * 2 ^ k % 18446744073709551616 : Nat) : Int) := by
  rw [ishl_u64 hk, Int.natCast_emod, Int.natCast_mul, Int.natCast_pow]; rfl
theorem iadd_n {a b : Nat} (h : a + b < 9223372036854775808) : iadd .i64 (a : Int) (b : Int) = ((a + b : Nat) : Int) := by rw [iadd_i64 (by omega) (by omega)]; omega
theorem iadd1_n {a : Nat} (h : a + 1 < 9223372036854775808) : iadd .i64 (a : Int) 1 = ((a + 1 : Nat) : Int) := by rw [iadd_i64 (by omega) (by omega)]; omega
theorem isub_n {a b : Nat} (h : b ≤ a) (h2 : a < 9223372036854775808) : isub .i64 (a : Int) (b : Int) = ((a - b : Nat) : Int) := by rw [isub_i64 (by omega) (by omega)]; omega
/-- The bits of a number, in so many places, the highest one first. -/
def nb (n : Nat) : Nat → List Int
  | 0 => []
  | w + 1 => ((n / 2 ^ w % 2 : Nat) : Int) :: nb n w
theorem nb_len (n : Nat) : ∀ w, (nb n w).length = w
  | 0 => rfl
  | w + 1 => by simp [nb, nb_len n w]
theorem nb_bit (n : Nat) : ∀ w, Bit (nb n w)
  | 0 => by intro x hx; simp [nb] at hx
  | w + 1 => by
    intro x hx
    rcases List.mem_cons.1 hx with rfl | h
    · omega
    · exact nb_bit n w x h
theorem nb_app (n a : Nat) : ∀ b, nb n (b + a) = nb (n / 2 ^ a) b ++ nb n a
  | 0 => by simp [nb]
  | b + 1 => by
    rw [show b + 1 + a = (b + a) + 1 from by omega, nb, nb_app n a b, nb, List.cons_append]
    congr 3
    rw [Nat.div_div_eq_div_mul, ← Nat.pow_add, Nat.add_comm]
theorem nb_snoc (n w : Nat) : nb n (w + 1) = nb (n / 2) w ++ [((n % 2 : Nat) : Int)] := by
  have := nb_app n 1 w
  simpa [nb] using this
theorem number_l {F : Nat} {n : Nat} (hn : n < 18446744073709551616) : ∀ (w k : Nat) (l : List Int), w < k → Bit l → l.length + w ≤ 100000 →
    M_bits_writer_number_l1 F (n : Int) k ((w : Int) - 1, (l.length : Int), pk l) = some (((l.length + w : Nat) : Int), pk (l ++ nb n w))
  | _, 0, _, h, _, _ => by omega
  | 0, k + 1, l, _, _, _ => by
    show M_bits_writer_number_b1 F (n : Int) _ (((0 : Nat) : Int) - 1) (l.length : Int) (pk l) = _
    unfold M_bits_writer_number_b1
    rw [if_neg (by simp)]
    simp [nb]
  | w + 1, k + 1, l, h, hl, hm => by
    show M_bits_writer_number_b1 F (n : Int) (M_bits_writer_number_l1 F (n : Int) k) (((w + 1 : Nat) : Int) - 1) (l.length : Int) (pk l) = _
    unfold M_bits_writer_number_b1
    rw [show ((w + 1 : Nat) : Int) - 1 = (w : Int) from by omega, if_pos (by simp)]
    have hc : decide ((0 : Int) ≤ (w : Int)) = true := decide_eq_true (by omega)
    rw [hc]
    simp only [chk, if_true]
    rw [ishr_n hn, iand1_n (by have := Nat.div_le_self n (2 ^ w); omega)]
    have hx : ((n / 2 ^ w % 2 : Nat) : Int) = 0 ∨ ((n / 2 ^ w % 2 : Nat) : Int) = 1 := by omega
    rw [bit_eq hl hx (by omega)]
    simp only [Option.bind_some]
    rw [isub_i64 (by omega) (by omega)]
    have := number_l (F := F) hn w k (l ++ [((n / 2 ^ w % 2 : Nat) : Int)]) (by omega) (bit_app hl (by intro y hy; simp only [List.mem_singleton] at hy; rw [hy]; exact hx)) (by simp; omega)
    rw [show (l ++ [((n / 2 ^ w % 2 : Nat) : Int)]).length = l.length + 1 from by simp] at this
    rw [this, List.append_assoc, show l.length + 1 + w = l.length + (w + 1) from by omega]
    rfl
theorem number_eq {F : Nat} {n w : Nat} {l : List Int} (hn : n < 18446744073709551616) (hF : w < F) (hl : Bit l) (hm : l.length + w ≤ 100000) :
    M_bits_writer_number F (l.length : Int) (pk l) (n : Int) (w : Int) = some (((l.length + w : Nat) : Int), pk (l ++ nb n w)) := by
  unfold M_bits_writer_number
  rw [isub_i64 (by omega) (by omega)]
  exact number_l hn w F l hF hl hm
theorem add_eq {F : Nat} {n w m : Nat} {b : List Int} (hn : n < 18446744073709551616) (hF : w < F) (hb : U8s b) (ob : Ok m b) (hw : w ≤ 10000) :
    M_bits_Add F (m : Int) b (n : Int) (w : Int) = some (((m + w : Nat) : Int), pk (bl b m ++ nb n w)) := by
  unfold M_bits_Add
  have := ob.max
  rw [own_eq (by rw [ob.len]; omega)]
  simp only [Option.bind_some]
  have h := number_eq (F := F) (l := bl b m) hn hF (bl_bit _ _) (by rw [bl_len]; omega)
  rw [bl_len, pk_bl hb ob] at h
  rw [h]; rfl
theorem bl_get {b : List Int} {n i : Nat} (h : i < n) : (bl b n)[i]? = some (bitAt b i) := by simp [bl, h]
theorem irem2_n (n : Nat) : irem (n : Int) 2 = ((n % 2 : Nat) : Int) := by
  unfold irem; rw [Int.tmod_eq_emod_of_nonneg (by omega)]; omega
theorem iquo2_n {n : Nat} (h : n ≤ 9223372036854775807) : iquo .i64 (n : Int) 2 = ((n / 2 : Nat) : Int) := by
  unfold iquo; rw [Int.tdiv_eq_ediv_of_nonneg (by omega), wrap_i64 (by omega) (by omega)]; omega
theorem iquo2_u {n : Nat} (h : n < 18446744073709551616) : iquo .u64 (n : Int) 2 = ((n / 2 : Nat) : Int) := by
  unfold iquo; rw [Int.tdiv_eq_ediv_of_nonneg (by omega), wrap_u64 (by omega) (by omega)]; omega
theorem iconv_i64_n {n : Nat} (h : n < 9223372036854775808) : iconv .i64 (n : Int) = (n : Int) := wrap_i64 (by omega) (by omega)
theorem div_pow_succ (x k : Nat) : x / 2 ^ (k + 1) = x / 2 / 2 ^ k := by rw [Nat.pow_succ, Nat.mul_comm, Nat.div_div_eq_div_mul]
theorem bitList_in {F : Nat} {rec38 : (List Int × Int) → Option (List Int)} {l : List Int} {i : Nat} (hm : i ≤ 100000) : ∀ (k j x : Nat), 7 - i % 8 < k + j → j ≤ 7 - i % 8 → x < 256 →
    M_R_BitList_l45 F rec38 l (i : Int) k ((x : Int), (j : Int)) = M_R_BitList_j44 F rec38 l (i : Int) ((x / 2 ^ (7 - i % 8 - j) : Nat) : Int)
  | 0, _, _, _, _, _ => by omega
  | k + 1, j, x, h, hj, hx => by
    show M_R_BitList_b45 F rec38 l (i : Int) (M_R_BitList_l45 F rec38 l (i : Int) k) (x : Int) (j : Int) = _
    unfold M_R_BitList_b45
    rw [irem8, isub_i64 (by omega) (by omega)]
    by_cases hlt : j < 7 - i % 8
    · rw [if_pos (by simp; omega), iquo2_n (by omega), iadd1_n (by omega), bitList_in hm k (j + 1) (x / 2) (by omega) (by omega) (by omega)]
      rw [show 7 - i % 8 - j = (7 - i % 8 - (j + 1)) + 1 from by omega, div_pow_succ]
    · rw [if_neg (by simp; omega), show 7 - i % 8 - j = 0 from by omega]
      simp
theorem bitList_l {F : Nat} (hF : 100 ≤ F) {b : List Int} (hb : U8s b) {n : Nat} (hn : n ≤ 8 * b.length) (hm : n ≤ 100000) : ∀ (k i : Nat), n < k + i → i ≤ n →
    M_R_BitList_l38 F (n : Int) b k (bl b i, (i : Int)) = some (bl b n)
  | 0, _, _, _ => by omega
  | k + 1, i, h, hi => by
    show M_R_BitList_b38 F (n : Int) b (M_R_BitList_l38 F (n : Int) b k) (bl b i) (i : Int) = _
    unfold M_R_BitList_b38
    by_cases hlt : i < n
    · rw [if_pos (by simp; omega), iquo8 (by omega), idx_nat]
      have hg : b[i / 8]? = some b[i / 8] := by rw [List.getElem?_eq_getElem (by omega)]
      rw [hg]
      simp only [Option.bind_some]
      have hx := hb b[i / 8] (List.getElem_mem (by omega))
      obtain ⟨x, hxe⟩ := Int.eq_ofNat_of_zero_le hx.1
      rw [hxe, iconv_i64_n (by omega)]
      rw [show ((0 : Int)) = ((0 : Nat) : Int) from rfl, bitList_in (by omega) F 0 x (by omega) (by omega) (by omega)]
      unfold M_R_BitList_j44
      rw [irem2_n, app_eq (by rw [bl_len]; simp; omega)]
      simp only [Option.bind_some, M_R_BitList_j42]
      rw [iadd1_n (by omega)]
      have e : bl b i ++ [((x / 2 ^ (7 - i % 8 - 0) % 2 : Nat) : Int)] = bl b (i + 1) := by
        rw [bl_succ]
        congr 2
        unfold bitAt
        simp only [List.getD, hg, Option.getD_some, hxe, Nat.sub_zero]
        norm_cast
      rw [e]
      exact bitList_l hF hb hn hm k (i + 1) (by omega) (by omega)
    · rw [if_neg (by simp; omega)]
      obtain rfl : i = n := by omega
      rfl
theorem bitList_eq {F : Nat} (hF : 20000 ≤ F) {b : List Int} (hb : U8s b) {n : Nat} (hn : n ≤ 8 * b.length) (hm : n ≤ 10000) : M_R_BitList F (n : Int) b = some (bl b n) := by
  unfold M_R_BitList
  exact bitList_l (by omega) hb hn (by omega) F 0 (by omega) (by omega)
theorem bit_n {l : List Int} (h : Bit l) {i : Nat} (hi : i < l.length) : ∃ x : Nat, l[i]? = some (x : Int) ∧ x < 2 := by
  have := h l[i] (List.getElem_mem hi)
  obtain ⟨x, hx⟩ := Int.eq_ofNat_of_zero_le (show 0 ≤ l[i] by omega)
  exact ⟨x, by rw [List.getElem?_eq_getElem hi, hx], by omega⟩
theorem imul2_n {n : Nat} (h : n < 4611686018427387904) : imul .i64 2 (n : Int) = ((2 * n : Nat) : Int) := by rw [imul_i64 (by omega) (by omega)]; omega
/-- The first so many of eight bits from a place on, as a number. -/
def byN (l : List Int) (i : Nat) : Nat → Nat
  | 0 => 0
  | k + 1 => 2 * byN l i k + (l.getD (i + k) 0).toNat
theorem byN_lt {l : List Int} (h : Bit l) (i : Nat) : ∀ k, byN l i k < 2 ^ k
  | 0 => by simp [byN]
  | k + 1 => by
    have := byN_lt h i k
    have h2 := h.getD (i + k)
    unfold byN
    rw [Nat.pow_succ]
    omega
theorem byN_8 {l : List Int} (h : Bit l) (i : Nat) : ((byN l (8 * i) 8 : Nat) : Int) = byt l i := by
  have h0 := h.getD (8 * i); have h1 := h.getD (8 * i + 1); have h2 := h.getD (8 * i + 2); have h3 := h.getD (8 * i + 3)
  have h4 := h.getD (8 * i + 4); have h5 := h.getD (8 * i + 5); have h6 := h.getD (8 * i + 6); have h7 := h.getD (8 * i + 7)
  unfold byt
  simp only [byN, Nat.add_zero]
  omega
theorem packBits_in {F : Nat} {rec98 : (Int × List Int) → Option (Int × List Int)} {l o : List Int} (hl : Bit l) {i : Nat} (hm : i ≤ 100000) (hlm : l.length ≤ 100000) : ∀ (k j : Nat), 8 < k + j → j ≤ 8 →
    M_R_PackBits_l116 F rec98 l (i : Int) o k ((byN l i j : Nat), (j : Int)) = M_R_PackBits_j113 F rec98 (i : Int) o ((byN l i 8 : Nat) : Int)
  | 0, _, _, _ => by omega
  | k + 1, j, h, hj => by
    show M_R_PackBits_b116 F rec98 l (i : Int) o (M_R_PackBits_l116 F rec98 l (i : Int) o k) ((byN l i j : Nat) : Int) (j : Int) = _
    unfold M_R_PackBits_b116
    by_cases hlt : j < 8
    · have hb := byN_lt hl i j
      have hp : 2 ^ j ≤ 2 ^ 8 := Nat.pow_le_pow_right (by decide) hj
      rw [show 2 ^ 8 = 256 from by decide] at hp
      rw [if_pos (by simp; omega), iadd_n (by omega)]
      by_cases h2 : i + j < l.length
      · rw [if_pos (by simp; omega), idx_nat]
        obtain ⟨x, hx, hx2⟩ := bit_n hl h2
        rw [hx]
        simp only [Option.bind_some, M_R_PackBits_j117]
        rw [imul2_n (by omega), iadd_n (by omega), iadd1_n (by omega)]
        have e : 2 * byN l i j + x = byN l i (j + 1) := by
          simp [byN, List.getD, hx]
        rw [e]
        exact packBits_in hl hm hlm k (j + 1) (by omega) (by omega)
      · rw [if_neg (by simp; omega)]
        simp only [M_R_PackBits_j117]
        rw [imul2_n (by omega), iadd1_n (by omega)]
        have e : 2 * byN l i j = byN l i (j + 1) := by
          show _ = 2 * _ + (l.getD (i + j) 0).toNat
          rw [getD_ge (by omega)]; rfl
        rw [e]
        exact packBits_in hl hm hlm k (j + 1) (by omega) (by omega)
    · rw [if_neg (by simp; omega)]
      obtain rfl : j = 8 := by omega
      rfl
theorem packBits_l {F : Nat} (hF : 100 ≤ F) {l : List Int} (hl : Bit l) (hm : l.length ≤ 90000) : ∀ (k i : Nat), (l.length + 7) / 8 < k + i → i ≤ (l.length + 7) / 8 →
    M_R_PackBits_l98 F l k (((8 * i : Nat) : Int), (List.range i).map (byt l)) = some ((l.length : Int), pk l)
  | 0, _, _, _ => by omega
  | k + 1, i, h, hi => by
    show M_R_PackBits_b98 F l (M_R_PackBits_l98 F l k) ((8 * i : Nat) : Int) ((List.range i).map (byt l)) = _
    unfold M_R_PackBits_b98
    by_cases hlt : 8 * i < l.length
    · rw [if_pos (by simp; omega)]
      have := packBits_in (F := F) (rec98 := M_R_PackBits_l98 F l k) (o := (List.range i).map (byt l)) hl (i := 8 * i) (by omega) (by omega) F 0 (by omega) (by omega)
      rw [show ((byN l (8 * i) 0 : Nat) : Int) = 0 from rfl, show ((0 : Nat) : Int) = 0 from rfl] at this
      rw [this]
      unfold M_R_PackBits_j113
      rw [byN_8 hl]
      have hr := byt_range hl i
      rw [show iconv .u8 (byt l i) = byt l i from wrap_u8 hr.1 hr.2, app_eq (by simp; omega)]
      simp only [Option.bind_some, M_R_PackBits_j108]
      rw [show ((8 : Int)) = ((8 : Nat) : Int) from rfl, iadd_n (by omega), show 8 * i + 8 = 8 * (i + 1) from by omega]
      have e : (List.range i).map (byt l) ++ [byt l i] = (List.range (i + 1)).map (byt l) := by rw [List.range_succ, List.map_append]; rfl
      rw [e]
      exact packBits_l hF hl hm k (i + 1) (by omega) (by omega)
    · rw [if_neg (by simp; omega)]
      obtain rfl : i = (l.length + 7) / 8 := by omega
      rfl
theorem packBits_eq {F : Nat} (hF : 20000 ≤ F) {l : List Int} (hl : Bit l) (hm : l.length ≤ 90000) : M_R_PackBits F l = some ((l.length : Int), pk l) := by
  unfold M_R_PackBits
  exact packBits_l (by omega) hl hm F 0 (by omega) (by omega)
theorem between_eq {F : Nat} {a b c : Int} : M_R_between F a b c = some (decide (b ≤ a ∧ a ≤ c)) := by
  unfold M_R_between
  congr 1
  by_cases h : b ≤ a <;> by_cases h2 : a ≤ c <;> simp [h, h2]
theorem numBits_l {F w : Nat} (hw : w ≤ 100000) : ∀ (k i n : Nat) (t : List Int), i < k → i ≤ w → n < 18446744073709551616 →
    M_R_NumBits_l3 F k ((n : Int), List.replicate i 0 ++ t, (i : Int) - 1) = some (nb n i ++ t)
  | 0, _, _, _, h, _, _ => by omega
  | k + 1, 0, n, t, h, _, _ => by
    show M_R_NumBits_b3 F (M_R_NumBits_l3 F k) (n : Int) _ _ = _
    unfold M_R_NumBits_b3
    rw [if_neg (by simp)]
    simp [M_R_NumBits_j2, nb]
  | k + 1, i + 1, n, t, h, hi, hn => by
    show M_R_NumBits_b3 F (M_R_NumBits_l3 F k) (n : Int) (List.replicate (i + 1) 0 ++ t) (((i + 1 : Nat) : Int) - 1) = _
    unfold M_R_NumBits_b3
    rw [show ((i + 1 : Nat) : Int) - 1 = (i : Int) from by omega, if_pos (by simp), idx_nat]
    have hg : (List.replicate (i + 1) (0 : Int) ++ t)[i]? = some 0 := by
      rw [List.getElem?_append_left (by simp)]; simp
    rw [hg]
    simp only [Option.bind_some, lett]
    rw [irem2_n, iconv_i64_n (by omega), iquo2_u hn, isub_i64 (by omega) (by omega), Int.toNat_natCast]
    have e : (List.replicate (i + 1) (0 : Int) ++ t).set i ((n % 2 : Nat) : Int) = List.replicate i 0 ++ (((n % 2 : Nat) : Int) :: t) := by
      rw [List.replicate_succ', List.append_assoc, List.set_append_right _ _ (by simp)]
      simp
    rw [e, numBits_l hw k i (n / 2) _ (by omega) (by omega) (by omega), nb_snoc]
    simp
theorem numBits_eq {F w n : Nat} (hF : w < F) (hw : w ≤ 100000) (hn : n < 18446744073709551616) : M_R_NumBits F (n : Int) (w : Int) = some (nb n w) := by
  unfold M_R_NumBits
  have hmk : mk 17592186044416 (0 : Int) (w : Int) = some (List.replicate w 0) := by
    unfold mk
    rw [if_pos (by simp; omega)]; simp
  rw [hmk]
  simp only [Option.bind_some]
  rw [isub_i64 (by omega) (by omega)]
  have := numBits_l (F := F) hw F w n [] hF (by omega) hn
  simpa using this
theorem bitsCheck_l {F : Nat} {l : List Int} (hm : l.length ≤ 100000) : ∀ (k i : Nat), l.length < k + i → i ≤ l.length →
    M_R_BitsCheck_l4 F l k (i : Int) = some (if (l.drop i).all (· == 0) then 0 else 1)
  | 0, _, _, _ => by omega
  | k + 1, i, h, hi => by
    show M_R_BitsCheck_b4 F l (M_R_BitsCheck_l4 F l k) (i : Int) = _
    unfold M_R_BitsCheck_b4
    by_cases hlt : i < l.length
    · rw [if_pos (by simp; omega), idx_nat, List.getElem?_eq_getElem hlt, List.drop_eq_getElem_cons hlt, List.all_cons]
      simp only [Option.bind_some]
      by_cases h0 : l[i] = 0
      · rw [h0, if_neg (by simp), iadd1_n (by omega), bitsCheck_l hm k (i + 1) (by omega) (by omega)]
        simp
      · rw [if_pos (by simpa using h0)]
        simp [h0]
    · rw [if_neg (by simp; omega), List.drop_eq_nil_of_le (by omega)]
      rfl
theorem all_low {b : List Int} (hb : U8s b) {m : Nat} (hlen : b.length = (m + 7) / 8) (hr : m % 8 ≠ 0) : ((bl b (8 * ((m + 7) / 8))).drop m).all (· == 0) = decide (b.getD (m / 8) 0 % 2 ^ (8 - m % 8) = 0) := by
  obtain ⟨q, hq⟩ : ∃ q, q = m / 8 := ⟨_, rfl⟩
  obtain ⟨r, hrr⟩ : ∃ r, r = m % 8 := ⟨_, rfl⟩
  have hm : m = 8 * q + r := by omega
  have hx : 0 ≤ b.getD q 0 ∧ b.getD q 0 < 256 := by
    have hlt : q < b.length := by omega
    have := hb b[q] (List.getElem_mem hlt)
    simpa [List.getD, hlt] using this
  have hc : (m + 7) / 8 = q + 1 := by omega
  obtain ⟨c0, c1, c2, c3, c4, c5, c6, c7⟩ := bitAt_8 b q
  have hall : ((bl b (8 * (q + 1))).drop m).all (· == 0) = true ↔ (∀ i, m ≤ i → i < 8 * q + 8 → bitAt b i = 0) := by
    rw [List.all_eq_true]
    constructor
    · intro h i h1 h2
      have hg : ((bl b (8 * (q + 1))).drop m)[i - m]? = some (bitAt b i) := by
        rw [List.getElem?_drop, show m + (i - m) = i from by omega]; exact bl_get (by omega)
      have := h _ (List.mem_of_getElem? hg)
      simpa using this
    · intro h x hx
      obtain ⟨j, hj⟩ := List.getElem?_of_mem hx
      rw [List.getElem?_drop] at hj
      have hjl : m + j < 8 * (q + 1) := by
        have := (List.getElem?_eq_some_iff.1 hj).1; rwa [bl_len] at this
      rw [bl_get hjl] at hj
      rw [← Option.some.inj hj, h _ (by omega) (by omega)]; rfl
  rw [hc, ← hq, ← hrr, Bool.eq_iff_iff, decide_eq_true_iff, hall]
  have hall2 : (∀ i, m ≤ i → i < 8 * q + 8 → bitAt b i = 0) ↔ (∀ j, r ≤ j → j < 8 → bitAt b (8 * q + j) = 0) := by
    constructor
    · intro h j h1 h2; exact h _ (by omega) (by omega)
    · intro h i h1 h2
      have := h (i - 8 * q) (by omega) (by omega)
      rwa [show 8 * q + (i - 8 * q) = i from by omega] at this
  rw [hall2]
  generalize b.getD q 0 = x at *
  have mk : ∀ j, j < 8 → (∀ j', r ≤ j' → j' < 8 → bitAt b (8 * q + j') = 0) → r ≤ j → bitAt b (8 * q + j) = 0 := fun j h1 h h2 => h j h2 h1
  constructor
  · intro h
    have g1 := mk 1 (by omega) h; have g2 := mk 2 (by omega) h; have g3 := mk 3 (by omega) h; have g4 := mk 4 (by omega) h
    have g5 := mk 5 (by omega) h; have g6 := mk 6 (by omega) h; have g7 := mk 7 (by omega) h
    rw [c1] at g1; rw [c2] at g2; rw [c3] at g3; rw [c4] at g4; rw [c5] at g5; rw [c6] at g6; rw [c7] at g7
    clear c0 c1 c2 c3 c4 c5 c6 c7 mk hall hall2 h
    rcases (by omega : r = 1 ∨ r = 2 ∨ r = 3 ∨ r = 4 ∨ r = 5 ∨ r = 6 ∨ r = 7) with h | h | h | h | h | h | h <;> subst h <;> simp only [Nat.reduceSub, Int.reducePow] <;> omega
  · intro h j h1 h2
    clear mk hall hall2
    rcases (by omega : r = 1 ∨ r = 2 ∨ r = 3 ∨ r = 4 ∨ r = 5 ∨ r = 6 ∨ r = 7) with hh | hh | hh | hh | hh | hh | hh <;> subst hh <;> simp only [Nat.reduceSub, Int.reducePow] at h <;>
      rcases (by omega : j = 1 ∨ j = 2 ∨ j = 3 ∨ j = 4 ∨ j = 5 ∨ j = 6 ∨ j = 7) with g | g | g | g | g | g | g <;> subst g <;> first | (exfalso; omega) | (rw [c1]; omega) | (rw [c2]; omega) | (rw [c3]; omega) | (rw [c4]; omega) | (rw [c5]; omega) | (rw [c6]; omega) | (rw [c7]; omega)
theorem bitsCheck_eq {F : Nat} (hF : 20000 ≤ F) {n : Int} {b : List Int} (hb : U8s b) : M_R_BitsCheck F n b = some (chkOf n b) := by
  unfold M_R_BitsCheck chkOf
  rw [between_eq]
  simp only [Option.bind_some]
  by_cases c1 : n < 0 ∨ 8192 < n
  · rw [if_pos (by simp; omega), if_pos c1]
  · rw [if_neg (by simp; omega), if_neg c1]
    obtain ⟨m, rfl⟩ := Int.eq_ofNat_of_zero_le (show 0 ≤ n by omega)
    have hj : ∀ c : Nat, c = (m + 7) / 8 → M_R_BitsCheck_j1 F (m : Int) b (c : Int) = some (if (b.length : Int) ≠ ((m : Int) + 7) / 8 then 1 else if (m : Int) % 8 ≠ 0 ∧ b.getD ((m : Int).toNat / 8) 0 % 2 ^ (8 - (m : Int).toNat % 8) ≠ 0 then 1 else 0) := by
      intro c hc
      unfold M_R_BitsCheck_j1
      by_cases c2 : b.length = c
      · rw [if_neg (by simp [c2]), if_neg (by omega)]
        rw [imul_i64 (by omega) (by omega), show (8 : Int) * (c : Int) = ((8 * c : Nat) : Int) from by omega, bitList_eq hF hb (by omega) (by omega)]
        simp only [Option.bind_some]
        rw [bitsCheck_l (by rw [bl_len]; omega) F m (by rw [bl_len]; omega) (by rw [bl_len]; omega), Int.toNat_natCast]
        by_cases hr : m % 8 = 0
        · rw [List.drop_eq_nil_of_le (by rw [bl_len]; omega), List.all_nil, if_pos rfl, if_neg (by omega)]
        · rw [hc, all_low hb (by omega) hr]
          by_cases hz : b.getD (m / 8) 0 % 2 ^ (8 - m % 8) = 0
          · rw [if_pos (decide_eq_true hz), if_neg (fun h => h.2 hz)]
          · rw [if_neg (by simp only [decide_eq_true_eq]; exact hz), if_pos ⟨by omega, hz⟩]
      · rw [if_pos (by rw [bne_iff_ne]; omega), if_pos (by omega)]
    rw [irem8, iquo8 (by omega)]
    by_cases h8 : 0 < m % 8
    · rw [if_pos (by simp; omega), iadd1_n (by omega)]
      exact hj _ (by omega)
    · rw [if_neg (by simp; omega)]
      exact hj _ (by omega)
theorem sub_n {α : Type} {l : List α} {i j : Nat} (h1 : i ≤ j) (h2 : j ≤ l.length) : sub l (i : Int) (j : Int) = some ((l.take j).drop i) := by
  unfold sub
  rw [if_pos ⟨by omega, by omega, by omega⟩, Int.toNat_natCast, Int.toNat_natCast]
theorem packed {l : List Int} {F : Nat} (hF : 20000 ≤ F) (hl : Bit l) (hm : l.length ≤ 90000) : M_R_PackBits F l = some ((l.length : Int), pk l) := packBits_eq hF hl hm
theorem pk_nil : pk [] = [] := rfl
theorem same_self {F : Nat} {n : Int} {xs : List Int} (hF : xs.length < F) (hm : xs.length ≤ 1000000) : M_R_SameBits F n xs n xs = some true := by
  rw [sameBits_eq hF (by omega)]; simp
theorem sameInts_l (F : Nat) (xs ys : List Int) : ∀ k, M_R_SameInts_l3 F xs ys k = M_R_SameBytes_l3 F xs ys k
  | 0 => rfl
  | k + 1 => by
    funext i
    show M_R_SameInts_b3 F xs ys (M_R_SameInts_l3 F xs ys k) i = M_R_SameBytes_b3 F xs ys (M_R_SameBytes_l3 F xs ys k) i
    rw [sameInts_l F xs ys k]; rfl
theorem sameInts_same (F : Nat) (xs ys : List Int) : M_R_SameInts F xs ys = M_R_SameBytes F xs ys := by
  unfold M_R_SameInts M_R_SameBytes; rw [sameInts_l]
def un (n : Nat) : List Int := List.replicate n 0 ++ [1]
theorem at_pk {F : Nat} {m : Int} {l : List Int} (hl : Bit l) (hm : l.length ≤ 90000) {i : Nat} (hi : i < l.length) : M_bits_At F m (pk l) (i : Int) = some l[i] := by
  rw [at_eq (pk_u8 hl) (by rw [pk_len]; omega) (by omega), bitAt_pk hl hi]
  simp [List.getD, hi]
/-- What is wrong with bits, and a place. -/
def raOf (m : Int) (b : List Int) (a : Int) : Int := if chkOf m b ≠ 0 then chkOf m b else if a < 0 ∨ m < a then 3 else 0
theorem readErr_eq {F : Nat} (hF : 20000 ≤ F) {m a : Int} {b : List Int} (hb : U8s b) : M_R_ReadErr F m b a = some (raOf m b a) := by
  unfold M_R_ReadErr raOf
  rw [bitsCheck_eq hF hb]
  simp only [Option.bind_some]
  by_cases h1 : chkOf m b = 0
  · rw [if_pos (by simpa using h1), if_neg (by simp [h1]), between_eq]
    simp only [Option.bind_some, M_R_ReadErr_j3, M_R_ReadErr_j2]
    by_cases h : a < 0 ∨ m < a
    · rw [if_pos h, if_pos (by simp; omega)]
    · rw [if_neg h, if_neg (by simp; omega), h1]
  · rw [if_neg (by simpa using h1), if_pos h1]
    rfl
theorem both_pk {F : Nat} (hF : 20000 ≤ F) {l k : List Int} (hl : Bit l) (hk : Bit k) (h1 : l.length ≤ 8192) (h2 : k.length ≤ 8192) :
    M_bits_Both F (l.length : Int) (pk l) (k.length : Int) (pk k) = some (((l ++ k).length : Int), pk (l ++ k)) := by
  rw [both_eq hF (pk_u8 hl) (pk_u8 hk) (ok_pk h1) (ok_pk h2), bl_pk hl, bl_pk hk, List.length_append]
/-- How many bits a number has. -/
def len (x : Nat) : Nat := if x = 0 then 0 else x.log2 + 1
/-- How many bits a number, and one, has behind its highest one. -/
def lg (n : Nat) : Nat := len (n + 1) - 1
def ga (n : Nat) : List Int := un (lg n) ++ nb (n + 1) (lg n)
def de (n : Nat) : List Int := ga (lg n) ++ nb (n + 1) (lg n)
def lo (n : Int) : Int × Int × Int := if 1099511627776 < n then (0, 0, 3) else (((ga n.toNat).length : Int), ((de n.toNat).length : Int), 0)
def sh (m : Nat) : Nat := len (m - 1)
def dd (m : Nat) : Nat := 2 ^ sh m - m
def le (n m : Nat) : List Int := if n < dd m then nb n (sh m - 1) else nb (n + dd m) (sh m)
theorem srt_perm (l : List Int) : (srt l).Perm l := List.mergeSort_perm l _
theorem srt_pw (l : List Int) : (srt l).Pairwise (· ≤ ·) := by
  have h := List.pairwise_mergeSort (le := fun x y : Int => decide (x ≤ y)) (fun a b c h1 h2 => by simp only [decide_eq_true_eq] at *; omega) (fun a b => by simp only [Bool.or_eq_true, decide_eq_true_eq]; omega) l
  exact h.imp (fun h => by simpa using h)
theorem srt_eq {l m : List Int} (hp : l.Perm m) (hm : m.Pairwise (· ≤ ·)) : srt l = m :=
  List.Perm.eq_of_pairwise (le := fun x y : Int => x ≤ y) (fun a b _ _ h1 h2 => by omega) (srt_pw l) hm ((srt_perm l).trans hp)
theorem grow_eq {F n : Nat} (h : n ≤ 1000000) : M_slices_Grow_int_int F ([] : List Int) 0 (n : Int) = some [] := by
  unfold M_slices_Grow_int_int lett
  rw [if_neg (by simp)]
  have e1 : isub .i64 ((0 : Nat) : Int) (([] : List Int).length : Int) = 0 := by decide
  rw [e1, isub_i64 (by omega) (by omega), Int.sub_zero]
  by_cases h0 : n = 0
  · subst h0; rfl
  · simp only
    rw [if_pos (by simp; omega)]
    have e2 : sub ([] : List Int) 0 ((0 : Nat) : Int) = some [] := by decide
    have e3 : appz 8796093022208 ([] : List Int) 0 (n : Int) = some (List.replicate n 0) := by
      unfold appz
      rw [if_pos (by simp; omega)]
      simp
    rw [e2]
    simp only [Option.bind_some]
    rw [e3]
    simp only [Option.bind_some]
    have e4 : sub (List.replicate n (0 : Int)) 0 ((([] : List Int).length : Nat) : Int) = some [] := by
      have := sub_n (l := List.replicate n (0 : Int)) (i := 0) (j := 0) (by omega) (by omega)
      simpa using this
    rw [e4]
    rfl
theorem concat_eq {F : Nat} (hF : 20000 ≤ F) {a b : List Int} (h : a.length + b.length ≤ 1000000) : M_slices_Concat_int_int F [a, b] = some (a ++ b) := by
  obtain ⟨k, rfl⟩ : ∃ k, F = k + 3 := ⟨F - 3, by omega⟩
  have i0 : idx [a, b] (0 : Int) = some a := rfl
  have i1 : idx [a, b] (1 : Int) = some b := rfl
  have e0 : iadd .i64 0 (a.length : Int) = (a.length : Int) := by rw [iadd_i64 (by omega) (by omega)]; omega
  have e1 : iadd .i64 (a.length : Int) (b.length : Int) = ((a.length + b.length : Nat) : Int) := iadd_n (by omega)
  have o1 : iadd .i64 0 1 = 1 := by decide
  have o2 : iadd .i64 1 1 = 2 := by decide
  have hs : M_slices_Concat_int_int_j2 (k + 3) [a, b] ((a.length + b.length : Nat) : Int) = some (a ++ b) := by
    unfold M_slices_Concat_int_int_j2
    rw [grow_eq h]
    simp only [Option.bind_some]
    show M_slices_Concat_int_int_b5 (k + 3) [a, b] (M_slices_Concat_int_int_l5 (k + 3) [a, b] (k + 2)) [] 0 = _
    unfold M_slices_Concat_int_int_b5
    rw [if_pos (by simp), i0]
    simp only [Option.bind_some]
    rw [app_eq (by simp; omega), o1]
    simp only [Option.bind_some, List.nil_append]
    show M_slices_Concat_int_int_b5 (k + 3) [a, b] (M_slices_Concat_int_int_l5 (k + 3) [a, b] (k + 1)) a 1 = _
    unfold M_slices_Concat_int_int_b5
    rw [if_pos (by simp), i1]
    simp only [Option.bind_some]
    rw [app_eq (by omega), o2]
    simp only [Option.bind_some]
    show M_slices_Concat_int_int_b5 (k + 3) [a, b] (M_slices_Concat_int_int_l5 (k + 3) [a, b] k) (a ++ b) 2 = _
    unfold M_slices_Concat_int_int_b5
    rw [if_neg (by simp)]
    rfl
  unfold M_slices_Concat_int_int
  show M_slices_Concat_int_int_b6 (k + 3) [a, b] (M_slices_Concat_int_int_l6 (k + 3) [a, b] (k + 2)) 0 0 = _
  unfold M_slices_Concat_int_int_b6
  rw [if_pos (by simp), i0]
  simp only [Option.bind_some]
  rw [e0, if_neg (by simp), o1]
  show M_slices_Concat_int_int_b6 (k + 3) [a, b] (M_slices_Concat_int_int_l6 (k + 3) [a, b] (k + 1)) (a.length : Int) 1 = _
  unfold M_slices_Concat_int_int_b6
  rw [if_pos (by simp), i1]
  simp only [Option.bind_some]
  rw [e1, if_neg (by simp; omega), o2]
  show M_slices_Concat_int_int_b6 (k + 3) [a, b] (M_slices_Concat_int_int_l6 (k + 3) [a, b] k) ((a.length + b.length : Nat) : Int) 2 = _
  unfold M_slices_Concat_int_int_b6
  rw [if_neg (by simp)]
  exact hs
theorem compare_eq {F : Nat} {x y : Int} : M_cmp_Compare_int F x y = some (if x < y then -1 else if y < x then 1 else 0) := by
  unfold M_cmp_Compare_int M_cmp_isNaN_int
  simp only [bne_self_eq_false, Option.bind_some, Bool.false_eq_true, if_false, decide_eq_true_eq]
  split
  · rfl
  · split <;> rfl
theorem or_eq {F : Nat} (hF : 3 ≤ F) {x y : Int} : M_cmp_Or_int F [x, y] = some (if x ≠ 0 then x else y) := by
  obtain ⟨k, rfl⟩ := Nat.exists_eq_add_of_le hF
  rw [Nat.add_comm]
  unfold M_cmp_Or_int
  show M_cmp_Or_int_b3 (k + 3) [x, y] (M_cmp_Or_int_l3 (k + 3) [x, y] (k + 2)) 0 = _
  unfold M_cmp_Or_int_b3
  rw [if_pos (by simp)]
  show ((some x).bind _) = _
  simp only [Option.bind_some]
  by_cases hx : x = 0
  · rw [if_neg (by simp [hx]), if_neg (by simp [hx])]
    show M_cmp_Or_int_b3 (k + 3) [x, y] (M_cmp_Or_int_l3 (k + 3) [x, y] (k + 1)) 1 = _
    unfold M_cmp_Or_int_b3
    rw [if_pos (by simp)]
    show ((some y).bind _) = _
    simp only [Option.bind_some]
    by_cases hy : y = 0
    · rw [if_neg (by simp [hy]), hy]
      show M_cmp_Or_int_b3 (k + 3) [x, y] (M_cmp_Or_int_l3 (k + 3) [x, y] k) 2 = _
      unfold M_cmp_Or_int_b3
      rw [if_neg (by simp)]
      rfl
    · rw [if_pos (by simp [hy])]
  · rw [if_pos (by simp [hx]), if_pos hx]
theorem take_snoc {α : Type} {l : List α} {j : Nat} (h : j < l.length) : l.take (j + 1) = l.take j ++ [l[j]] := by
  rw [List.take_add_one, List.getElem?_eq_getElem h]; rfl
def gL (l : List Int) (t : Nat) : Int := l.getD t 0
theorem gL_get {l : List Int} {t : Nat} (h : t < l.length) : l[t]? = some (gL l t) := by simp [gL, List.getD, List.getElem?_eq_getElem h]
def KL (l : List Int) : Prop := l.length ≤ 64 ∧ ∀ n ∈ l, 0 ≤ n ∧ n ≤ 24
theorem KL.at {l : List Int} (h : KL l) {t : Nat} (ht : t < l.length) : 0 ≤ gL l t ∧ gL l t ≤ 24 := h.2 _ (List.mem_of_getElem? (gL_get ht))
def kOut (l : List Int) : Bool := l.any fun n => decide (n < 0) || decide (24 < n)
def kchk (l : List Int) : Int := if 64 < l.length then 2 else if kOut l then 3 else 0
theorem kchk_ok {l : List Int} : kchk l = 0 ↔ KL l := by
  unfold kchk KL
  by_cases h1 : 64 < l.length
  · rw [if_pos h1]; simp; omega
  · rw [if_neg h1]
    by_cases h2 : kOut l = true
    · rw [if_pos h2]
      unfold kOut at h2
      obtain ⟨n, hn, hx⟩ := List.any_eq_true.1 h2
      refine ⟨fun h => by simp at h, fun h => ?_⟩
      have := h.2 n hn
      simp at hx; omega
    · rw [if_neg h2]
      refine ⟨fun _ => ⟨by omega, fun n hn => ?_⟩, fun _ => rfl⟩
      by_cases hx : n < 0 ∨ 24 < n
      · exact absurd (List.any_eq_true.2 ⟨n, hn, by simpa using hx⟩) h2
      · omega
theorem kindex_l {F : Nat} {l : List Int} (hm : l.length ≤ 1000000) : ∀ (k i : Nat), l.length < k + i → i ≤ l.length → ∃ z, M_slices_IndexFunc_int_int_kraft_Check_1_l3 F l k (i : Int) = some z ∧ decide (0 ≤ z) = kOut (l.drop i)
  | 0, _, _, _ => by omega
  | k + 1, i, h, hi => by
    show ∃ z, M_slices_IndexFunc_int_int_kraft_Check_1_b3 F l (M_slices_IndexFunc_int_int_kraft_Check_1_l3 F l k) (i : Int) = some z ∧ _
    unfold M_slices_IndexFunc_int_int_kraft_Check_1_b3
    by_cases hlt : i < l.length
    · rw [if_pos (by simp; omega), idx_nat, List.getElem?_eq_getElem hlt, List.drop_eq_getElem_cons hlt]
      simp only [Option.bind_some]
      unfold M_kraft_Check_1
      simp only [Option.bind_some]
      unfold kOut
      rw [List.any_cons]
      by_cases hc : (decide (l[i] < 0) || decide (24 < l[i])) = true
      · rw [if_pos hc, hc]
        exact ⟨_, rfl, by simp⟩
      · rw [if_neg hc, iadd1_n (by omega)]
        rw [Bool.not_eq_true] at hc
        rw [hc, Bool.false_or]
        exact kindex_l hm k (i + 1) (by omega) (by omega)
    · rw [if_neg (by simp; omega), List.drop_eq_nil_of_le (by omega)]
      exact ⟨-1, rfl, rfl⟩
theorem kcheck_eq {F : Nat} {l : List Int} (hF : 1000 ≤ F) : M_kraft_Check F l = some (kchk l) := by
  unfold M_kraft_Check kchk
  by_cases h : 64 < l.length
  · rw [if_pos (by simp; omega), if_pos h]
  · rw [if_neg (by simp; omega), if_neg h]
    unfold M_slices_ContainsFunc_int_int_kraft_Check_1 M_slices_IndexFunc_int_int_kraft_Check_1
    obtain ⟨z, e1, e2⟩ := kindex_l (F := F) (l := l) (by omega) F 0 (by omega) (by omega)
    have e1' : M_slices_IndexFunc_int_int_kraft_Check_1_l3 F l F 0 = some z := e1
    rw [List.drop_zero] at e2
    rw [e1']
    simp only [Option.bind_some]
    rw [e2]
    split <;> rfl
theorem rkcheck_l {F : Nat} {l : List Int} (hm : l.length ≤ 1000000) : ∀ (k i : Nat), l.length < k + i → i ≤ l.length → M_R_KraftCheck_l3 F l k (i : Int) = some (if kOut (l.drop i) then 3 else 0)
  | 0, _, _, _ => by omega
  | k + 1, i, h, hi => by
    show M_R_KraftCheck_b3 F l (M_R_KraftCheck_l3 F l k) (i : Int) = _
    unfold M_R_KraftCheck_b3
    by_cases hlt : i < l.length
    · rw [if_pos (by simp; omega), idx_nat, List.getElem?_eq_getElem hlt, List.drop_eq_getElem_cons hlt]
      simp only [Option.bind_some]
      unfold M_R_between
      simp only [Option.bind_some]
      unfold kOut
      rw [List.any_cons]
      by_cases hc : l[i] < 0 ∨ 24 < l[i]
      · rw [if_pos (by simp; omega), if_pos (by simp; omega)]
      · have : (decide (l[i] < 0) || decide (24 < l[i])) = false := by simp; omega
        rw [if_neg (by simp; omega), this, Bool.false_or, iadd1_n (by omega)]
        exact rkcheck_l hm k (i + 1) (by omega) (by omega)
    · rw [if_neg (by simp; omega), List.drop_eq_nil_of_le (by omega)]
      rfl
theorem rkcheck_eq {F : Nat} {l : List Int} (hF : 1000 ≤ F) : M_R_KraftCheck F l = some (kchk l) := by
  unfold M_R_KraftCheck kchk
  by_cases h : 64 < l.length
  · rw [if_pos (by simp; omega), if_pos h]
  · rw [if_neg (by simp; omega), if_neg h]
    have := rkcheck_l (F := F) (l := l) (by omega) F 0 (by omega) (by omega)
    rw [List.drop_zero] at this
    exact this
/-- What a length takes of all. -/
def W (n : Int) : Nat := if 0 < n then 2 ^ (24 - n.toNat) else 0
theorem W_le (n : Int) : W n ≤ 16777216 := by
  unfold W
  split
  · exact Nat.le_trans (Nat.pow_le_pow_right (by decide) (show 24 - n.toNat ≤ 24 by omega)) (by decide)
  · omega
def wsum (l : List Int) : Nat := (l.map W).sum
theorem wsum_le : ∀ (l : List Int), wsum l ≤ 16777216 * l.length
  | [] => by simp [wsum]
  | x :: l => by
    have h1 := W_le x
    have h2 := wsum_le l
    unfold wsum at *
    rw [List.map_cons, List.sum_cons, List.length_cons]
    omega
theorem ishl_i64 {m : Nat} (h : m ≤ 24) : ishl .i64 1 (m : Int) = ((2 ^ m : Nat) : Int) := by
  have : ∀ m : Fin 25, ishl .i64 1 ((m.1 : Nat) : Int) = ((2 ^ m.1 : Nat) : Int) := by decide
  exact this ⟨m, by omega⟩
theorem room_l {F : Nat} {l : List Int} (hl : KL l) : ∀ (k i : Nat), l.length < k + i → i ≤ l.length → M_kraft_room_l8 F l k (16777216 - (wsum (l.take i) : Int), (i : Int)) = some (16777216 - (wsum l : Int))
  | 0, _, _, _ => by omega
  | k + 1, i, h, hi => by
    have h1 := hl.1
    show M_kraft_room_b8 F l (M_kraft_room_l8 F l k) (16777216 - (wsum (l.take i) : Int)) (i : Int) = _
    unfold M_kraft_room_b8 M_kraft_room_j9
    by_cases hlt : i < l.length
    · have hrec := room_l (F := F) hl k (i + 1) (by omega) (by omega)
      have hn := hl.2 _ (List.getElem_mem hlt)
      have hws := wsum_le (l.take i)
      rw [List.length_take] at hws
      have e : wsum (l.take (i + 1)) = wsum (l.take i) + W l[i] := by
        unfold wsum
        rw [take_snoc hlt, List.map_append, List.sum_append]; simp
      have hW := W_le l[i]
      rw [e] at hrec
      rw [if_pos (by simp; omega), idx_nat, List.getElem?_eq_getElem hlt]
      simp only [Option.bind_some]
      by_cases h0 : 0 < l[i]
      · obtain ⟨n, hnn⟩ := Int.eq_ofNat_of_zero_le hn.1
        have hsub : isub .i64 24 l[i] = ((24 - n : Nat) : Int) := by rw [isub_i64 (by omega) (by omega)]; omega
        have hw : W l[i] = 2 ^ (24 - n) := by unfold W; rw [if_pos h0, hnn, Int.toNat_natCast]
        rw [hw] at hrec hW
        rw [if_pos (by simpa using h0), hsub]
        simp only [chk, lett]
        rw [if_pos (by simp), ishl_i64 (by omega), isub_i64 (by omega) (by omega), iadd1_n (by omega)]
        rw [show (16777216 : Int) - ((wsum (l.take i) + 2 ^ (24 - n) : Nat) : Int) = 16777216 - (wsum (l.take i) : Int) - ((2 ^ (24 - n) : Nat) : Int) by omega] at hrec
        exact hrec
      · have hw : W l[i] = 0 := by unfold W; rw [if_neg h0]
        rw [hw, Nat.add_zero] at hrec
        rw [if_neg (by simpa using h0), iadd1_n (by omega)]
        exact hrec
    · rw [if_neg (by simp; omega), List.take_of_length_le (by omega)]
      rfl
theorem kroom_eq {F : Nat} {l : List Int} (hF : 1000 ≤ F) (hl : KL l) : M_kraft_room F l = some (16777216 - (wsum l : Int)) := by
  have h1 := hl.1
  unfold M_kraft_room
  have := room_l (F := F) hl F 0 (by omega) (by omega)
  rw [List.take_zero] at this
  exact this
/-- What lengths up to n take. -/
def wle (l : List Int) (n : Nat) : Nat := (l.map fun x => if x ≤ (n : Int) then W x else 0).sum
theorem wle_succ {n : Nat} (hn : n < 24) : ∀ (l : List Int), wle l (n + 1) = wle l n + l.count ((n + 1 : Nat) : Int) * 2 ^ (23 - n)
  | [] => by simp [wle]
  | x :: l => by
    have ih := wle_succ hn l
    unfold wle at *
    rw [List.map_cons, List.sum_cons, List.map_cons, List.sum_cons, ih, List.count_cons]
    by_cases h1 : x = ((n + 1 : Nat) : Int)
    · rw [if_pos (by omega), if_neg (by omega), if_pos (by simpa using h1)]
      have : W x = 2 ^ (23 - n) := by
        unfold W
        rw [if_pos (by omega), h1, Int.toNat_natCast]
        congr 1; omega
      rw [this, Nat.add_mul, Nat.one_mul]; omega
    · rw [if_neg (show ¬ (x == ((n + 1 : Nat) : Int)) = true by simpa using h1)]
      simp only [Nat.add_zero]
      by_cases h2 : x ≤ (n : Int)
      · rw [if_pos (by omega), if_pos h2]; omega
      · rw [if_neg (by omega), if_neg h2]; omega
theorem wle_zero {l : List Int} (h : ∀ n ∈ l, 0 ≤ n) : wle l 0 = 0 := by
  unfold wle
  induction l with
  | nil => rfl
  | cons x l ih =>
    rw [List.map_cons, List.sum_cons, ih fun n hn => h n (by simp [hn])]
    have := h x (by simp)
    unfold W
    split
    · rw [if_neg (by omega)]
    · rfl
theorem wle_24 {l : List Int} (h : ∀ n ∈ l, n ≤ 24) : wle l 24 = wsum l := by
  unfold wle wsum
  congr 1
  exact List.map_congr_left fun x hx => if_pos (h x hx)
theorem rroom_in {F : Nat} {l : List Int} {n : Nat} {left : Int} {rec48 : (Int × Int) → Option Int} (hl : l.length ≤ 1000) (hb : -2000000000 ≤ left ∧ left ≤ 2000000000) : ∀ (k s : Nat), l.length < k + s → s ≤ l.length →
    M_R_KraftRoom_l56 F rec48 l (n : Int) k (left - ((l.take s).count (n : Int) : Int), (s : Int)) = M_R_KraftRoom_j53 F rec48 (n : Int) (left - (l.count (n : Int) : Int))
  | 0, _, _, _ => by omega
  | k + 1, s, h, hs => by
    show M_R_KraftRoom_b56 F rec48 l (n : Int) (M_R_KraftRoom_l56 F rec48 l (n : Int) k) (left - ((l.take s).count (n : Int) : Int)) (s : Int) = _
    unfold M_R_KraftRoom_b56 M_R_KraftRoom_j57
    by_cases hlt : s < l.length
    · have hrec := rroom_in (F := F) (n := n) (rec48 := rec48) hl hb k (s + 1) (by omega) (by omega)
      rw [take_snoc hlt, List.count_append] at hrec
      have hc := List.count_le_length (a := (n : Int)) (l := l.take s)
      rw [List.length_take] at hc
      rw [if_pos (by simp; omega), idx_nat, List.getElem?_eq_getElem hlt]
      simp only [Option.bind_some]
      by_cases hx : l[s] = (n : Int)
      · rw [hx] at hrec
        rw [if_pos (by simpa using hx), isub_i64 (by omega) (by omega), iadd1_n (by omega)]
        rw [show [(n : Int)].count (n : Int) = 1 by simp] at hrec
        rw [show left - (((l.take s).count (n : Int) + 1 : Nat) : Int) = left - ((l.take s).count (n : Int) : Int) - 1 by omega] at hrec
        exact hrec
      · rw [show [l[s]].count (n : Int) = 0 by simp [hx], Nat.add_zero] at hrec
        rw [if_neg (by simpa using hx), iadd1_n (by omega)]
        exact hrec
    · rw [if_neg (by simp; omega), List.take_of_length_le (by omega)]
/-- The room that is left, length by length. -/
def lft (l : List Int) : Nat → Int
  | 0 => 1
  | n + 1 => 2 * lft l n - (l.count ((n + 1 : Nat) : Int) : Int)
theorem lft_w {l : List Int} (h : ∀ n ∈ l, 0 ≤ n) : ∀ n, n ≤ 24 → lft l n * ((2 ^ (24 - n) : Nat) : Int) = 16777216 - (wle l n : Int)
  | 0, _ => by rw [wle_zero h]; rfl
  | n + 1, hn => by
    have ih := lft_w h n (by omega)
    rw [wle_succ (by omega)]
    unfold lft
    have e : 24 - n = (24 - (n + 1)) + 1 := by omega
    rw [e, Nat.pow_succ] at ih
    rw [show 23 - n = 24 - (n + 1) by omega]
    generalize hp : 2 ^ (24 - (n + 1)) = p at *
    generalize l.count ((n + 1 : Nat) : Int) = c
    rw [Int.sub_mul]
    rw [Int.natCast_mul, ← Int.mul_assoc] at ih
    have e2 : ((wle l n + c * p : Nat) : Int) = (wle l n : Int) + (c : Int) * (p : Int) := by rw [Int.natCast_add, Int.natCast_mul]
    rw [e2]
    have : lft l n * (p : Int) * ((2 : Nat) : Int) = 2 * lft l n * (p : Int) := by rw [Int.mul_comm (2 : Int) (lft l n), Int.mul_assoc, Int.mul_assoc, Int.mul_comm (2 : Int) (p : Int)]; rfl
    omega
theorem lft_bound {l : List Int} (hl : l.length ≤ 64) : ∀ n, n ≤ 24 → -1100000000 ≤ lft l n * 1 ∧ lft l n ≤ 2 ^ n ∧ -(64 * (2 ^ n : Int)) + 64 ≤ lft l n
  | 0, _ => by unfold lft; omega
  | n + 1, hn => by
    obtain ⟨_, h2, h3⟩ := lft_bound hl n (by omega)
    have hc := List.count_le_length (a := ((n + 1 : Nat) : Int)) (l := l)
    have hp : (2 : Int) ^ (n + 1) = 2 * 2 ^ n := by rw [Int.pow_succ, Int.mul_comm]
    have hpm : (2 : Int) ^ (n + 1) ≤ 16777216 := by
      have : (2 : Nat) ^ (n + 1) ≤ 2 ^ 24 := Nat.pow_le_pow_right (by decide) hn
      have h : (((2 : Nat) ^ (n + 1) : Nat) : Int) ≤ ((2 ^ 24 : Nat) : Int) := by exact_mod_cast this
      rw [Int.natCast_pow] at h
      exact h
    have hp1 : (1 : Int) ≤ 2 ^ n := by
      have : 0 < (2 : Nat) ^ n := Nat.pow_pos (by decide)
      have h : ((1 : Nat) : Int) ≤ (((2 : Nat) ^ n : Nat) : Int) := by exact_mod_cast this
      rw [Int.natCast_pow] at h
      exact h
    unfold lft
    rw [hp] at hpm ⊢
    generalize (2 : Int) ^ n = q at *
    refine ⟨?_, ?_, ?_⟩ <;> omega
theorem rroom_out {F : Nat} {l : List Int} (hF : 1000 ≤ F) (hl : KL l) : ∀ (k n : Nat), 24 < k + n → n ≤ 24 → M_R_KraftRoom_l48 F l k (lft l n, ((n + 1 : Nat) : Int)) = some (lft l 24)
  | 0, _, _, _ => by omega
  | k + 1, n, h, hn => by
    have h1 := hl.1
    show M_R_KraftRoom_b48 F l (M_R_KraftRoom_l48 F l k) (lft l n) ((n + 1 : Nat) : Int) = _
    unfold M_R_KraftRoom_b48
    by_cases hlt : n < 24
    · obtain ⟨b1, b2, b3⟩ := lft_bound (l := l) h1 n (by omega)
      have hpm : (2 : Int) ^ n ≤ 16777216 := by
        have : (2 : Nat) ^ n ≤ 2 ^ 24 := Nat.pow_le_pow_right (by decide) hn
        have h : (((2 : Nat) ^ n : Nat) : Int) ≤ ((2 ^ 24 : Nat) : Int) := by exact_mod_cast this
        rw [Int.natCast_pow] at h
        exact h
      have hb4 : -1073741824 ≤ lft l n * 2 := by
        have := (lft_bound (l := l) h1 n (by omega)).2.2
        have hpm2 : (2 : Int) ^ n ≤ 8388608 := by
          have : (2 : Nat) ^ n ≤ 2 ^ 23 := Nat.pow_le_pow_right (by decide) (by omega)
          have h : (((2 : Nat) ^ n : Nat) : Int) ≤ ((2 ^ 23 : Nat) : Int) := by exact_mod_cast this
          rw [Int.natCast_pow] at h
          exact h
        omega
      rw [if_pos (by simp; omega), imul_i64 (by omega) (by omega)]
      have hin := rroom_in (F := F) (l := l) (n := n + 1) (left := 2 * lft l n) (rec48 := M_R_KraftRoom_l48 F l k) (by omega) (by omega) F 0 (by omega) (by omega)
      rw [List.take_zero, List.count_nil] at hin
      have e : (2 * lft l n, (0 : Int)) = (2 * lft l n - ((0 : Nat) : Int), ((0 : Nat) : Int)) := by simp
      rw [e, hin]
      unfold M_R_KraftRoom_j53
      rw [iadd1_n (by omega)]
      exact rroom_out hF hl k (n + 1) (by omega) (by omega)
    · rw [if_neg (by simp; omega), show n = 24 from by omega]
      rfl
theorem rroom_eq {F : Nat} {l : List Int} (hF : 1000 ≤ F) (hl : KL l) : M_R_KraftRoom F l = some (16777216 - (wsum l : Int)) := by
  unfold M_R_KraftRoom
  have := rroom_out hF hl F 0 (by omega) (by omega)
  refine Eq.trans this ?_
  have h := lft_w (l := l) (fun n hn => (hl.2 n hn).1) 24 (by omega)
  rw [wle_24 fun n hn => (hl.2 n hn).2] at h
  rw [← h]
  simp
def rsum (n : Nat) (f : Nat → Nat) : Nat := ((List.range n).map f).sum
theorem rsum_succ (n : Nat) (f : Nat → Nat) : rsum (n + 1) f = rsum n f + f n := by
  unfold rsum
  rw [List.range_succ, List.map_append, List.sum_append]; simp
theorem rsum_le {f h : Nat → Nat} : ∀ {n : Nat}, (∀ t, t < n → f t ≤ h t) → rsum n f ≤ rsum n h
  | 0, _ => by simp [rsum]
  | n + 1, hh => by
    rw [rsum_succ, rsum_succ]
    have := rsum_le (n := n) fun t ht => hh t (by omega)
    have := hh n (by omega)
    omega
theorem rsum_congr {f h : Nat → Nat} {n : Nat} (hh : ∀ t, t < n → f t = h t) : rsum n f = rsum n h :=
  Nat.le_antisymm (rsum_le fun t ht => Nat.le_of_eq (hh t ht)) (rsum_le fun t ht => Nat.le_of_eq (hh t ht).symm)
theorem rsum_one {f h : Nat → Nat} {a d : Nat} : ∀ {n : Nat}, a < n → (∀ t, t < n → t ≠ a → f t = h t) → h a = f a + d → rsum n h = rsum n f + d
  | 0, ha, _, _ => by omega
  | n + 1, ha, hh, hd => by
    rw [rsum_succ, rsum_succ]
    by_cases hn : a = n
    · subst hn
      rw [hd, rsum_congr (n := a) (f := f) (h := h) fun t ht => hh t (by omega) (by omega)]; omega
    · rw [rsum_one (n := n) (by omega) (fun t ht hne => hh t (by omega) hne) hd, hh n (by omega) (fun e => hn e.symm)]; omega
theorem rsum_filter {p : Nat → Bool} {f : Nat → Nat} : ∀ (n : Nat), rsum n (fun t => if p t then f t else 0) = (((List.range n).filter p).map f).sum
  | 0 => rfl
  | n + 1 => by
    rw [rsum_succ, rsum_filter n, List.range_succ, List.filter_append, List.map_append, List.sum_append]
    congr 1
    cases h : p n <;> simp [h]
theorem sum_perm {A B : List Nat} (h : A.Perm B) : A.sum = B.sum := by
  induction h with
  | nil => rfl
  | cons x _ ih => simp [ih]
  | swap x y l => simp; omega
  | trans _ _ h1 h2 => exact h1.trans h2
/-- Is a sign ahead of this place? -/
def bfn (l : List Int) (n : Int) (s t : Nat) : Bool := decide (0 < gL l t) && (decide (gL l t < n) || (decide (gL l t = n) && decide (t < s)))
def psn (l : List Int) (n : Int) (s : Nat) : Nat := rsum l.length fun t => if bfn l n s t then W (gL l t) else 0
def pos (l : List Int) (s : Nat) : Nat := psn l (gL l s) s
def cw (l : List Int) (s : Nat) : Nat := pos l s / W (gL l s)
def cd (l : List Int) (s : Nat) : List Int := nb (cw l s) (gL l s).toNat
def ent (l : List Int) (s : Nat) : Int × List Int := (gL l s, pk (cd l s))
def cds (l : List Int) : List (Int × List Int) := (List.range l.length).map (ent l)
theorem bfn_iff {l : List Int} {n : Int} {s t : Nat} : bfn l n s t = true ↔ 0 < gL l t ∧ (gL l t < n ∨ (gL l t = n ∧ t < s)) := by simp [bfn]
theorem wsum_rsum (l : List Int) : wsum l = rsum l.length fun t => W (gL l t) := by
  unfold wsum rsum
  congr 1
  apply List.ext_getElem (by simp)
  intro i h1 h2
  rw [List.length_map] at h1
  simp [gL, List.getD, List.getElem?_eq_getElem h1]
theorem psn_le (l : List Int) (n : Int) (s : Nat) : psn l n s ≤ wsum l := by
  rw [wsum_rsum]
  exact rsum_le fun t _ => by split <;> omega
theorem psn_step {l : List Int} {n : Int} {s : Nat} (hs : s < l.length) (hn : 0 < n) : psn l n (s + 1) = psn l n s + if gL l s = n then W n else 0 := by
  unfold psn
  refine rsum_one hs (fun t _ hne => ?_) ?_
  · have : bfn l n s t = bfn l n (s + 1) t := Bool.eq_iff_iff.2 (by rw [bfn_iff, bfn_iff]; constructor <;> (rintro ⟨a, b⟩; exact ⟨a, by omega⟩))
    rw [this]
  · have h1 : bfn l n s s = decide (0 < gL l s ∧ gL l s < n) := Bool.eq_iff_iff.2 (by rw [bfn_iff, decide_eq_true_eq]; omega)
    have h2 : bfn l n (s + 1) s = decide (0 < gL l s ∧ gL l s ≤ n) := Bool.eq_iff_iff.2 (by rw [bfn_iff, decide_eq_true_eq]; omega)
    rw [h1, h2]
    by_cases h : gL l s = n
    · rw [if_pos h, if_pos (by simp; omega), if_neg (by simp; omega), h]; omega
    · rw [if_neg h]
      by_cases h3 : 0 < gL l s ∧ gL l s < n
      · rw [if_pos (by simp; omega), if_pos (by simp; omega)]; rfl
      · rw [if_neg (by simp; omega), if_neg (by simp; omega)]
theorem psn_next {l : List Int} {n : Int} : psn l n l.length = psn l (n + 1) 0 := by
  unfold psn
  refine rsum_congr fun t ht => ?_
  have : bfn l n l.length t = bfn l (n + 1) 0 t := Bool.eq_iff_iff.2 (by rw [bfn_iff, bfn_iff]; omega)
  rw [this]
theorem psn_first {l : List Int} : psn l 1 0 = 0 := by
  unfold psn
  have : rsum l.length (fun t => if bfn l 1 0 t then W (gL l t) else 0) = rsum l.length fun _ => 0 := rsum_congr fun t _ => by
    rw [if_neg]
    rw [bfn_iff]; omega
  rw [this]
  unfold rsum
  induction List.range l.length with
  | nil => rfl
  | cons x L ih => simpa using ih
theorem W_of {n : Nat} (h : 0 < n) : W (n : Int) = 2 ^ (24 - n) := by
  unfold W
  rw [if_pos (by omega), Int.toNat_natCast]
/-- The codes up to a place. -/
def tbl (l : List Int) (p : Nat → Bool) : List (Int × List Int) := (List.range l.length).map fun t => if p t then ent l t else (0, [])
theorem tbl_len (l : List Int) (p : Nat → Bool) : (tbl l p).length = l.length := by simp [tbl]
theorem tbl_get {l : List Int} {p : Nat → Bool} {t : Nat} (h : t < l.length) : (tbl l p)[t]? = some (if p t then ent l t else (0, [])) := by simp [tbl, h]
theorem tbl_set {l : List Int} {p q : Nat → Bool} {s : Nat} (h : ∀ t, t < l.length → q t = (p t || decide (t = s))) : (tbl l p).set s (ent l s) = tbl l q := by
  apply List.ext_getElem (by simp [tbl])
  intro t h1 h2
  rw [tbl_len] at h2
  rw [List.getElem_set]
  simp only [tbl, List.getElem_map, List.getElem_range]
  rw [h t h2]
  by_cases hs : s = t
  · subst hs; simp
  · rw [if_neg hs]
    have : ¬ t = s := fun e => hs e.symm
    simp [this]
theorem tbl_congr {l : List Int} {p q : Nat → Bool} (h : ∀ t, t < l.length → p t = q t) : tbl l p = tbl l q := by
  unfold tbl
  exact List.map_congr_left fun t ht => by rw [h t (List.mem_range.1 ht)]
theorem tbl_all {l : List Int} {p : Nat → Bool} (hl : KL l) (h : ∀ t, t < l.length → 0 < gL l t → p t = true) : tbl l p = cds l := by
  unfold tbl cds
  refine List.map_congr_left fun t ht => ?_
  have ht := List.mem_range.1 ht
  have h1 := hl.at ht
  by_cases h0 : 0 < gL l t
  · rw [if_pos (h t ht h0)]
  · have : gL l t = 0 := by omega
    have e : ent l t = (0, []) := by
      unfold ent cd
      rw [this, show (0 : Int).toNat = 0 from rfl, show nb (cw l t) 0 = [] from rfl, pk_nil]
    rw [e]; split <;> rfl
theorem ent_at {l : List Int} {s n N : Nat} (h : gL l s = (n : Int)) (hn : 0 < n) (hN : N * 2 ^ (24 - n) = pos l s) : ent l s = ((n : Int), pk (nb N n)) := by
  unfold ent cd cw
  rw [h, W_of hn, ← hN, Nat.mul_div_cancel _ (Nat.pow_pos (by decide)), Int.toNat_natCast]
theorem big_le {l : List Int} (hl : KL l) {n N s : Nat} (hN : N * 2 ^ (24 - n) = psn l (n : Int) s) : N ≤ 1073741824 := by
  have h1 := psn_le l (n : Int) s
  have h2 := wsum_le l
  have h3 := hl.1
  have h4 : N * 1 ≤ N * 2 ^ (24 - n) := Nat.mul_le_mul_left N (Nat.pow_pos (by decide))
  omega
theorem rcodes_in {F n : Nat} {l : List Int} {rec50 : (List (Int × List Int) × Int × Int) → Option (List (Int × List Int) × Int)} (hF : 20000 ≤ F) (hl : KL l) (hn : 0 < n) (hn2 : n ≤ 24) : ∀ (k s N : Nat), l.length < k + s → s ≤ l.length → N * 2 ^ (24 - n) = psn l (n : Int) s →
    ∃ N', N' * 2 ^ (24 - n) = psn l (n : Int) l.length ∧ M_R_KraftCodes_l58 F rec50 l (n : Int) k (tbl l (bfn l n s), (N : Int), (s : Int)) = M_R_KraftCodes_j55 F rec50 (n : Int) (tbl l (bfn l n l.length)) (N' : Int)
  | 0, _, _, _, _, _ => by omega
  | k + 1, s, N, h, hs, hN => by
    have h1 := hl.1
    have hNb := big_le hl hN
    show ∃ N', _ ∧ M_R_KraftCodes_b58 F rec50 l (n : Int) (M_R_KraftCodes_l58 F rec50 l (n : Int) k) (tbl l (bfn l n s)) (N : Int) (s : Int) = _
    unfold M_R_KraftCodes_b58 M_R_KraftCodes_j59
    by_cases hlt : s < l.length
    · have hst := psn_step (n := (n : Int)) hlt (by omega)
      rw [if_pos (by simp; omega), idx_nat, gL_get hlt]
      simp only [Option.bind_some]
      by_cases hx : gL l s = (n : Int)
      · rw [if_pos hx, W_of hn] at hst
        have hpos : N * 2 ^ (24 - n) = pos l s := by unfold pos; rw [hx]; exact hN
        have he := ent_at hx hn hpos
        have hnl : (nb N n).length = n := nb_len N n
        rw [if_pos (by simpa using hx), numBits_eq (by omega) (by omega) (by omega)]
        simp only [Option.bind_some]
        rw [packed (by omega) (nb_bit N n) (by rw [hnl]; omega), hnl]
        simp only [Option.bind_some]
        rw [idx_nat, tbl_get hlt]
        simp only [Option.bind_some, lett, Int.toNat_natCast]
        rw [← he, tbl_set (q := bfn l n (s + 1)) (fun t _ => Bool.eq_iff_iff.2 (by
          rw [Bool.or_eq_true, bfn_iff, bfn_iff, decide_eq_true_eq]
          constructor
          · rintro ⟨a, b⟩
            by_cases hts : t = s
            · exact .inr hts
            · exact .inl ⟨a, by omega⟩
          · rintro (⟨a, b⟩ | rfl)
            · exact ⟨a, by omega⟩
            · exact ⟨by omega, .inr ⟨hx, by omega⟩⟩))]
        have e1 : iadd .u64 (N : Int) 1 = ((N + 1 : Nat) : Int) := by unfold iadd; rw [wrap_u64 (by omega) (by omega)]; omega
        rw [e1, iadd1_n (by omega)]
        exact rcodes_in hF hl hn hn2 k (s + 1) (N + 1) (by omega) (by omega) (by rw [hst, ← hN, Nat.add_mul, Nat.one_mul])
      · rw [if_neg hx] at hst
        simp only [Nat.add_zero] at hst
        rw [if_neg (by simpa using hx), iadd1_n (by omega)]
        have e : tbl l (bfn l n s) = tbl l (bfn l n (s + 1)) := tbl_congr fun t _ => Bool.eq_iff_iff.2 (by
          rw [bfn_iff, bfn_iff]
          constructor
          · rintro ⟨a, b⟩; exact ⟨a, by omega⟩
          · rintro ⟨a, b⟩
            refine ⟨a, ?_⟩
            rcases b with b | ⟨b1, b2⟩
            · exact .inl b
            · by_cases hts : t = s
              · subst hts; exact absurd b1 hx
              · exact .inr ⟨b1, by omega⟩)
        rw [e]
        exact rcodes_in hF hl hn hn2 k (s + 1) N (by omega) (by omega) (by rw [hst, hN])
    · rw [if_neg (by simp; omega)]
      have : s = l.length := by omega
      subst this
      exact ⟨N, hN, rfl⟩
theorem rcodes_out {F : Nat} {l : List Int} (hF : 20000 ≤ F) (hl : KL l) : ∀ (k n N : Nat), 25 < k + n → n ≤ 25 → 1 ≤ n → N * 2 ^ (25 - n) = psn l (n : Int) 0 →
    M_R_KraftCodes_l50 F l k (tbl l (bfn l n 0), (N : Int), (n : Int)) = some (cds l, 0)
  | 0, _, _, _, _, _, _ => by omega
  | k + 1, n, N, h, hn, hn1, hN => by
    have h1 := hl.1
    show M_R_KraftCodes_b50 F l (M_R_KraftCodes_l50 F l k) (tbl l (bfn l n 0)) (N : Int) (n : Int) = _
    unfold M_R_KraftCodes_b50
    by_cases hlt : n ≤ 24
    · have hN2 : (2 * N) * 2 ^ (24 - n) = psn l (n : Int) 0 := by
        rw [← hN, show 25 - n = (24 - n) + 1 by omega, Nat.pow_succ, Nat.mul_comm 2 N, Nat.mul_assoc, Nat.mul_comm 2]
      have hb := big_le hl hN2
      have e1 : imul .u64 2 (N : Int) = ((2 * N : Nat) : Int) := by unfold imul; rw [wrap_u64 (by omega) (by omega)]; omega
      obtain ⟨N', a1, a2⟩ := rcodes_in (F := F) (n := n) (l := l) (rec50 := M_R_KraftCodes_l50 F l k) hF hl (by omega) hlt F 0 (2 * N) (by omega) (by omega) hN2
      have a2' : M_R_KraftCodes_l58 F (M_R_KraftCodes_l50 F l k) l (n : Int) F (tbl l (bfn l n 0), ((2 * N : Nat) : Int), 0) = _ := a2
      rw [if_pos (by simp; omega), e1, a2']
      unfold M_R_KraftCodes_j55
      rw [iadd1_n (by omega)]
      have e : tbl l (bfn l n l.length) = tbl l (bfn l ((n + 1 : Nat) : Int) 0) := tbl_congr fun t ht => Bool.eq_iff_iff.2 (by rw [bfn_iff, bfn_iff]; omega)
      rw [e]
      refine rcodes_out hF hl k (n + 1) N' (by omega) (by omega) (by omega) ?_
      rw [show 25 - (n + 1) = 24 - n by omega, a1, psn_next]
      rfl
    · rw [if_neg (by simp; omega)]
      unfold M_R_KraftCodes_j31
      rw [tbl_all hl fun t ht h0 => bfn_iff.2 ⟨h0, .inl (by have := hl.at ht; omega)⟩]
def codesM (l : List Int) : List (Int × List Int) × Int := if kchk l ≠ 0 then ([], kchk l) else if 16777216 < wsum l then ([], 8) else (cds l, 0)
theorem mk_tbl {l : List Int} (h : l.length ≤ 1000) : mk 2199023255552 (((0 : Int), ([] : List Int)) : Int × List Int) (l.length : Int) = some (tbl l (bfn l 1 0)) := by
  unfold mk
  rw [if_pos ⟨by omega, by omega⟩, Int.toNat_natCast]
  congr 1
  apply List.ext_getElem (by simp [tbl])
  intro t h1 h2
  simp only [tbl, List.getElem_map, List.getElem_range, List.getElem_replicate]
  rw [if_neg]
  rw [bfn_iff]; omega
theorem rcodes_eq {F : Nat} {l : List Int} (hF : 20000 ≤ F) : M_R_KraftCodes F l = some (codesM l) := by
  unfold M_R_KraftCodes codesM
  rw [rkcheck_eq (by omega)]
  simp only [Option.bind_some]
  unfold M_R_KraftCodes_j60 M_R_KraftCodes_j2
  by_cases h : kchk l = 0
  · have hl := kchk_ok.1 h
    have h1 := hl.1
    rw [if_pos (by simpa using h), rroom_eq (by omega) hl, if_neg (show ¬ kchk l ≠ 0 by simp [h])]
    simp only [Option.bind_some]
    by_cases h2 : 16777216 < wsum l
    · rw [if_pos (by simp; omega), if_pos (by decide), if_pos h2]
    · rw [if_neg (show ¬ decide (16777216 - (wsum l : Int) < 0) = true by simp; omega), h, if_neg (by decide), if_neg h2, mk_tbl (by omega)]
      simp only [Option.bind_some]
      exact rcodes_out hF hl F 1 0 (by omega) (by omega) (by omega) (by rw [show ((1 : Nat) : Int) = 1 from rfl, psn_first])
  · rw [if_neg (by simpa using h), if_neg (by simp), if_pos (by simpa using h), if_pos h]
def kLt (l : List Int) (a b : Nat) : Prop := gL l a < gL l b ∨ (gL l a = gL l b ∧ a < b)
instance kLtDec (l : List Int) (a b : Nat) : Decidable (kLt l a b) := by unfold kLt; infer_instance
def usd (l : List Int) : List Nat := (List.range l.length).filter fun t => decide (0 < gL l t)
def uN (l : List Int) : List Nat := (usd l).mergeSort fun a b => decide (¬ kLt l b a)
theorem uN_perm (l : List Int) : (uN l).Perm (usd l) := List.mergeSort_perm _ _
theorem usd_nodup (l : List Int) : (usd l).Nodup := (List.nodup_range.filter _ : List.Pairwise _ _)
theorem uN_pw (l : List Int) : (uN l).Pairwise (kLt l) := by
  have h := List.pairwise_mergeSort (le := fun a b : Nat => decide (¬ kLt l b a)) (fun a b c h1 h2 => by simp only [decide_eq_true_eq] at *; unfold kLt at *; omega) (fun a b => by simp only [Bool.or_eq_true, decide_eq_true_eq]; unfold kLt; omega) (usd l)
  have hn : (uN l).Nodup := (uN_perm l).nodup_iff.2 (usd_nodup l)
  refine (List.Pairwise.and h hn).imp fun {a b} h => ?_
  have h1 := h.1
  have h2 := h.2
  simp only [decide_eq_true_eq] at h1
  unfold kLt at *; omega
theorem mem_uN {l : List Int} {t : Nat} : t ∈ uN l ↔ t < l.length ∧ 0 < gL l t := by
  rw [(uN_perm l).mem_iff]
  unfold usd
  rw [List.mem_filter, List.mem_range]; simp
theorem take_uN {l : List Int} {i : Nat} (hi : i < (uN l).length) {t : Nat} : t ∈ (uN l).take i ↔ t < l.length ∧ bfn l (gL l (uN l)[i]) (uN l)[i] t = true := by
  have hpw := List.pairwise_iff_getElem.1 (uN_pw l)
  constructor
  · intro ht
    obtain ⟨j, hj, rfl⟩ := List.mem_iff_getElem.1 ht
    rw [List.length_take] at hj
    rw [List.getElem_take]
    have h1 := hpw j i (by omega) hi (by omega)
    have h2 := mem_uN.1 (List.getElem_mem (show j < (uN l).length by omega))
    exact ⟨h2.1, bfn_iff.2 ⟨h2.2, h1⟩⟩
  · rintro ⟨h1, h2⟩
    have h3 := bfn_iff.1 h2
    obtain ⟨j, hj, rfl⟩ := List.mem_iff_getElem.1 (mem_uN.2 ⟨h1, h3.1⟩)
    by_cases hji : j < i
    · exact List.mem_iff_getElem.2 ⟨j, by rw [List.length_take]; omega, List.getElem_take⟩
    · exfalso
      rcases Nat.eq_or_lt_of_le (show i ≤ j by omega) with he | he
      · subst he; omega
      · have h4 := hpw i j hi hj he
        unfold kLt at h4; omega
/-- What the first signs take, in their order. -/
def ssum (l : List Int) (i : Nat) : Nat := (((uN l).take i).map fun t => W (gL l t)).sum
theorem ssum_pos {l : List Int} {i : Nat} (hi : i < (uN l).length) : ssum l i = pos l (uN l)[i] := by
  unfold ssum pos psn
  rw [rsum_filter]
  refine sum_perm (List.Perm.map _ ?_)
  have hn : (uN l).Nodup := (uN_perm l).nodup_iff.2 (usd_nodup l)
  refine (List.perm_ext_iff_of_nodup (hn.sublist (List.take_sublist _ _)) (List.nodup_range.filter _ : List.Pairwise _ _)).2 fun t => ?_
  rw [take_uN hi, List.mem_filter, List.mem_range]
theorem ssum_succ {l : List Int} {i : Nat} (hi : i < (uN l).length) : ssum l (i + 1) = ssum l i + W (gL l (uN l)[i]) := by
  unfold ssum
  rw [take_snoc hi, List.map_append, List.sum_append]; simp
theorem used_cmp {F : Nat} {l : List Int} (hF : 3 ≤ F) {a b : Nat} (ha : a < l.length) (hb : b < l.length) : ∃ z, M_kraft_used_1 F (a : Int) (b : Int) l = some z ∧ (z < 0 ↔ kLt l a b) := by
  unfold M_kraft_used_1
  rw [idx_nat, gL_get ha]
  simp only [Option.bind_some]
  rw [idx_nat, gL_get hb]
  simp only [Option.bind_some]
  rw [compare_eq, compare_eq]
  simp only [Option.bind_some]
  rw [or_eq hF]
  simp only [Option.bind_some]
  unfold kLt
  by_cases h1 : gL l a < gL l b
  · exact ⟨-1, by simp [h1], by simp [h1]⟩
  · by_cases h2 : gL l b < gL l a
    · exact ⟨1, by simp [h1, h2], by omega⟩
    · refine ⟨if (a : Int) < (b : Int) then -1 else if (b : Int) < (a : Int) then 1 else 0, by simp [h1, h2], ?_⟩
      split
      · omega
      · split <;> omega
theorem sorted_eq {F : Nat} {l : List Int} (hF : 3 ≤ F) (hm : l.length ≤ 1000) : M_slices_SortFunc_int_int_kraft_used_1 F ((usd l).map fun (t : Nat) => (t : Int)) l = some ((uN l).map fun (t : Nat) => (t : Int)) := by
  have hu : ∀ x ∈ (usd l).map (fun (t : Nat) => (t : Int)), ∃ t : Nat, x = (t : Int) ∧ t < l.length := fun x hx => by
    obtain ⟨t, ht, rfl⟩ := List.mem_map.1 hx
    unfold usd at ht
    exact ⟨t, rfl, List.mem_range.1 (List.mem_filter.1 ht).1⟩
  refine sortF_eq (lt := fun a b : Int => gL l a.toNat < gL l b.toNat ∨ (gL l a.toNat = gL l b.toNat ∧ a < b)) (fun a ha b hb => ?_) (fun a => by omega) (fun a b d => by omega) (fun a b => by omega) ?_ ?_ ?_
  · obtain ⟨s, rfl, hs⟩ := hu a ha
    obtain ⟨t, rfl, ht⟩ := hu b hb
    obtain ⟨z, e1, e2⟩ := used_cmp (F := F) hF hs ht
    refine ⟨z, e1, ?_⟩
    rw [e2]
    unfold kLt
    simp only [Int.toNat_natCast]
    omega
  · rw [List.length_map]
    have : (usd l).length ≤ l.length := by
      unfold usd
      exact Nat.le_trans (List.length_filter_le _ _) (by simp)
    omega
  · exact (uN_perm l).map _
  · rw [List.pairwise_map]
    exact (uN_pw l).imp fun {a b} h => by
      simp only [Int.toNat_natCast]
      unfold kLt at h; omega
theorem used_l {F : Nat} {l : List Int} (hF : 3 ≤ F) (hm : l.length ≤ 1000) : ∀ (k i : Nat), l.length < k + i → i ≤ l.length → M_kraft_used_l8 F l k (((List.range i).filter fun t => decide (0 < gL l t)).map (fun (t : Nat) => (t : Int)), (i : Int)) = some ((uN l).map fun (t : Nat) => (t : Int))
  | 0, _, _, _ => by omega
  | k + 1, i, h, hi => by
    show M_kraft_used_b8 F l (M_kraft_used_l8 F l k) (((List.range i).filter fun t => decide (0 < gL l t)).map fun (t : Nat) => (t : Int)) (i : Int) = _
    unfold M_kraft_used_b8 M_kraft_used_j9
    by_cases hlt : i < l.length
    · have hrec := used_l (F := F) hF hm k (i + 1) (by omega) (by omega)
      rw [List.range_succ, List.filter_append, List.map_append] at hrec
      have hfl : ((List.range i).filter fun t => decide (0 < gL l t)).length ≤ i := Nat.le_trans (List.length_filter_le _ _) (by simp)
      rw [if_pos (by simp; omega), idx_nat, gL_get hlt]
      simp only [Option.bind_some]
      by_cases h0 : 0 < gL l i
      · rw [if_pos (by simpa using h0), app_eq (by simp only [List.length_map, List.length_singleton]; omega)]
        simp only [Option.bind_some]
        rw [iadd1_n (by omega)]
        rw [show ([i].filter fun t => decide (0 < gL l t)) = [i] by simp [h0]] at hrec
        exact hrec
      · rw [if_neg (by simpa using h0), iadd1_n (by omega)]
        rw [show ([i].filter fun t => decide (0 < gL l t)) = [] by simp [h0], List.map_nil, List.append_nil] at hrec
        exact hrec
    · rw [if_neg (by simp; omega), show i = l.length from by omega]
      unfold M_kraft_used_j5
      have hs := sorted_eq (F := F) (l := l) hF hm
      unfold usd at hs
      rw [hs]
      simp only [Option.bind_some, chk]
      rw [if_pos]
      have := (uN_perm l).length_eq
      unfold usd at this
      simp [this]
theorem used_eq {F : Nat} {l : List Int} (hF : 20000 ≤ F) (hm : l.length ≤ 1000) : M_kraft_used F l = some ((uN l).map fun (t : Nat) => (t : Int)) := by
  unfold M_kraft_used
  exact used_l (by omega) hm F 0 (by omega) (by omega)
theorem codes_l {F : Nat} {l : List Int} (hF : 20000 ≤ F) (hl : KL l) : ∀ (k i N last : Nat), (uN l).length < k + i → i ≤ (uN l).length → N * 2 ^ (24 - last) = ssum l i → (∀ j, j < (uN l).length → i ≤ j → (last : Int) ≤ gL l ((uN l).getD j 0)) → last ≤ 24 →
    M_kraft_Codes_l5 F l ((uN l).map fun (t : Nat) => (t : Int)) k (tbl l (fun t => decide (t ∈ (uN l).take i)), (N : Int), (last : Int), (i : Int)) = some (cds l, 0)
  | 0, _, _, _, _, _, _, _, _ => by omega
  | k + 1, i, N, last, h, hi, hN, hlast, hl24 => by
    have h1 := hl.1
    have hul : (uN l).length ≤ l.length := by
      rw [(uN_perm l).length_eq]
      unfold usd
      exact Nat.le_trans (List.length_filter_le _ _) (by simp)
    show M_kraft_Codes_b5 F l ((uN l).map fun (t : Nat) => (t : Int)) (M_kraft_Codes_l5 F l ((uN l).map fun (t : Nat) => (t : Int)) k) (tbl l (fun t => decide (t ∈ (uN l).take i))) (N : Int) (last : Int) (i : Int) = _
    unfold M_kraft_Codes_b5
    by_cases hlt : i < (uN l).length
    · obtain ⟨hu1, hu2⟩ := mem_uN.1 (List.getElem_mem hlt)
      have hut := hl.at hu1
      obtain ⟨n, hn⟩ := Int.eq_ofNat_of_zero_le hut.1
      have hgd : (uN l).getD i 0 = (uN l)[i] := by simp [List.getD, List.getElem?_eq_getElem hlt]
      have hln := hlast i hlt (Nat.le_refl _)
      rw [hgd, hn] at hln
      have hps := ssum_pos hlt
      have hN' : (N * 2 ^ (n - last)) * 2 ^ (24 - n) = pos l (uN l)[i] := by
        rw [← hps, ← hN, Nat.mul_assoc, ← Nat.pow_add]
        congr 2; omega
      have hbig : N * 2 ^ (n - last) ≤ 1073741824 := big_le hl (n := n) (s := (uN l)[i]) (by rw [hN']; unfold pos; rw [hn])
      have he := ent_at hn (by omega) hN'
      have hsh : ishl .u64 (N : Int) (isub .i64 (n : Int) (last : Int)) = ((N * 2 ^ (n - last) : Nat) : Int) := by
        rw [isub_n (by omega) (by omega), ishl_n (by omega), Nat.mod_eq_of_lt (by omega)]
      rw [if_pos (by simp; omega), idx_nat, List.getElem?_map, List.getElem?_eq_getElem hlt]
      simp only [Option.map_some, Option.bind_some]
      rw [idx_nat, gL_get hu1, hn]
      simp only [Option.bind_some, chk]
      rw [if_pos (by rw [isub_n (by omega) (by omega)]; simp), idx_nat, tbl_get hu1]
      simp only [Option.bind_some, lett]
      rw [hsh]
      have hadd := add_eq (F := F) (n := N * 2 ^ (n - last)) (w := n) (m := 0) (b := []) (by omega) (by omega) (fun x hx => by simp at hx) (ok_pk (l := []) (by simp)) (by omega)
      have hadd' : M_bits_Add F 0 [] ((N * 2 ^ (n - last) : Nat) : Int) (n : Int) = some ((n : Int), pk (nb (N * 2 ^ (n - last)) n)) := by
        rw [Nat.zero_add] at hadd
        exact hadd
      rw [hadd']
      simp only [Option.bind_some, Int.toNat_natCast]
      rw [← he, tbl_set (q := fun t => decide (t ∈ (uN l).take (i + 1))) (fun t _ => by rw [← Bool.decide_or]; exact decide_eq_decide.2 (by rw [take_snoc hlt, List.mem_append, List.mem_singleton]))]
      have e1 : iadd .u64 ((N * 2 ^ (n - last) : Nat) : Int) 1 = ((N * 2 ^ (n - last) + 1 : Nat) : Int) := by unfold iadd; rw [wrap_u64 (by omega) (by omega)]; omega
      rw [e1, iadd1_n (by omega)]
      refine codes_l hF hl k (i + 1) _ n (by omega) (by omega) ?_ (fun j hj hij => ?_) (by omega)
      · rw [ssum_succ hlt, hps, ← hN', hn, W_of (by omega), Nat.add_mul, Nat.one_mul]
      · have := List.pairwise_iff_getElem.1 (uN_pw l) i j hlt hj (by omega)
        have hgj : (uN l).getD j 0 = (uN l)[j] := by simp [List.getD, List.getElem?_eq_getElem hj]
        unfold kLt at this
        rw [hgj]; omega
    · rw [if_neg (by simp; omega)]
      unfold M_kraft_Codes_j4
      rw [tbl_all hl fun t ht h0 => by rw [show i = (uN l).length by omega, List.take_length]; exact decide_eq_true (mem_uN.2 ⟨ht, h0⟩)]
theorem codes_eq {F : Nat} {l : List Int} (hF : 20000 ≤ F) : M_kraft_Codes F l = some (codesM l) := by
  unfold M_kraft_Codes codesM
  rw [kcheck_eq (by omega)]
  simp only [Option.bind_some]
  unfold M_kraft_Codes_j6 M_kraft_Codes_j2
  by_cases h : kchk l = 0
  · have hl := kchk_ok.1 h
    have h1 := hl.1
    rw [if_pos (by simpa using h), kroom_eq (by omega) hl, if_neg (show ¬ kchk l ≠ 0 by simp [h])]
    simp only [Option.bind_some]
    by_cases h2 : 16777216 < wsum l
    · rw [if_pos (by simp; omega), if_pos (by decide), if_pos h2]
    · have hul : (uN l).length ≤ l.length := by
        rw [(uN_perm l).length_eq]
        unfold usd
        exact Nat.le_trans (List.length_filter_le _ _) (by simp)
      rw [if_neg (show ¬ decide (16777216 - (wsum l : Int) < 0) = true by simp; omega), h, if_neg (by decide), if_neg h2, mk_tbl (by omega)]
      simp only [Option.bind_some]
      rw [used_eq hF (by omega)]
      simp only [Option.bind_some]
      have e0 : tbl l (bfn l 1 0) = tbl l (fun t => decide (t ∈ (uN l).take 0)) := tbl_congr fun t _ => by
        rw [List.take_zero]
        simp only [List.not_mem_nil, decide_false]
        rw [← Bool.not_eq_true, bfn_iff]; omega
      rw [e0]
      exact codes_l hF hl F 0 0 0 (by omega) (by omega) (by simp [ssum]) (fun j hj _ => by
        have hgj : (uN l).getD j 0 = (uN l)[j] := by simp [List.getD, List.getElem?_eq_getElem hj]
        have := (mem_uN.1 (List.getElem_mem hj)).2
        rw [hgj]; omega) (by omega)
  · rw [if_neg (by simpa using h), if_neg (by simp), if_pos (by simpa using h), if_pos h]
def hw (many : List Int) (s : Nat) : Nat := (gL many s).toNat
def hst (many : List Int) : Nat → List Grp
  | 0 => []
  | i + 1 => if 0 < gL many i then gins ([i], hw many i) (hst many i) else hst many i
def hdep (many : List Int) : Nat → Nat :=
  let h := hst many many.length
  hrun h.length h (fun s => if h.length = 1 ∧ s ∈ hsg h then 1 else 0)
def HM (many : List Int) : Prop := many.length ≤ 64 ∧ ∀ n ∈ many, 0 ≤ n ∧ n ≤ 1048576
theorem HM.at {many : List Int} (h : HM many) {t : Nat} (ht : t < many.length) : 0 ≤ gL many t ∧ gL many t ≤ 1048576 := h.2 _ (List.mem_of_getElem? (gL_get ht))
def usdTo (many : List Int) (i : Nat) : List Nat := (List.range i).filter fun t => decide (0 < gL many t)
theorem usdTo_succ (many : List Int) (i : Nat) : usdTo many (i + 1) = usdTo many i ++ if 0 < gL many i then [i] else [] := by
  unfold usdTo
  rw [List.range_succ, List.filter_append]
  congr 1
  by_cases h : 0 < gL many i <;> simp [h]
theorem usdTo_all (many : List Int) : usdTo many many.length = usd many := rfl
theorem hst_sg (many : List Int) : ∀ i, (hsg (hst many i)).Perm (usdTo many i)
  | 0 => List.Perm.refl _
  | i + 1 => by
    rw [usdTo_succ]
    unfold hst
    by_cases h : 0 < gL many i
    · rw [if_pos h, if_pos h]
      refine (hsg_perm (gins_perm _ _)).trans ?_
      show (i :: hsg (hst many i)).Perm _
      exact ((hst_sg many i).cons i).trans (List.perm_append_singleton i _).symm
    · rw [if_neg h, if_neg h, List.append_nil]
      exact hst_sg many i
theorem hst_wt (many : List Int) : ∀ i, ((hst many i).map (·.2)).Perm ((usdTo many i).map (hw many))
  | 0 => List.Perm.refl _
  | i + 1 => by
    rw [usdTo_succ]
    unfold hst
    by_cases h : 0 < gL many i
    · rw [if_pos h, if_pos h, List.map_append]
      refine ((gins_perm _ _).map _).trans ?_
      exact ((hst_wt many i).cons _).trans (List.perm_append_singleton _ _).symm
    · rw [if_neg h, if_neg h, List.append_nil]
      exact hst_wt many i
theorem hst_one (many : List Int) : ∀ i, ∀ g ∈ hst many i, ∃ s, s < i ∧ g = ([s], hw many s)
  | 0, g, hg => by simp [hst] at hg
  | i + 1, g, hg => by
    unfold hst at hg
    by_cases h : 0 < gL many i
    · rw [if_pos h, (gins_perm _ _).mem_iff, List.mem_cons] at hg
      rcases hg with rfl | hg
      · exact ⟨i, by omega, rfl⟩
      · obtain ⟨s, hs, e⟩ := hst_one many i g hg
        exact ⟨s, by omega, e⟩
    · rw [if_neg h] at hg
      obtain ⟨s, hs, e⟩ := hst_one many i g hg
      exact ⟨s, by omega, e⟩
theorem hst_ord (many : List Int) : ∀ i, (hst many i).Pairwise (fun a b => glt a b = true)
  | 0 => List.Pairwise.nil
  | i + 1 => by
    unfold hst
    by_cases h : 0 < gL many i
    · rw [if_pos h]
      refine gins_sorted (hst_ord many i) fun g hg => ?_
      obtain ⟨s, hs, rfl⟩ := hst_one many i g hg
      show i ≠ s
      omega
    · rw [if_neg h]; exact hst_ord many i
theorem hst_len (many : List Int) (i : Nat) : (hst many i).length = (usdTo many i).length := by
  have := (hst_wt many i).length_eq
  simpa using this
theorem usd_le (many : List Int) : (usd many).length ≤ many.length := by
  have := List.length_filter_le (fun t => decide (0 < gL many t)) (List.range many.length)
  rwa [List.length_range] at this
theorem mem_usd {many : List Int} {t : Nat} : t ∈ usd many ↔ t < many.length ∧ 0 < gL many t := by simp [usd]
def ho (many : List Int) : Nat → Nat := fun s => if (hst many many.length).length = 1 ∧ s ∈ hsg (hst many many.length) then 1 else 0
theorem hdep_eq (many : List Int) : hdep many = hrun (hst many many.length).length (hst many many.length) (ho many) := rfl
theorem hst_HI {many : List Int} (hm : HM many) {o : Nat → Nat} (h0 : (hst many many.length).length ≠ 1) (ho : ∀ s, o s = 0) : HI (hw many) (hst many many.length) o where
  nd := (hst_sg many _).nodup_iff.2 (by rw [usdTo_all]; exact usd_nodup many)
  ne := fun g hg => by obtain ⟨s, _, rfl⟩ := hst_one many _ g hg; simp
  up := fun g hg => by obtain ⟨s, _, rfl⟩ := hst_one many _ g hg; simp
  wt := fun g hg => by obtain ⟨s, _, rfl⟩ := hst_one many _ g hg; simp [nsum]
  ord := hst_ord many _
  room := fun g hg => by obtain ⟨s, _, rfl⟩ := hst_one many _ g hg; simp [nsum, ho]
  low := fun s _ => by
    have := hst_len many many.length
    have h1 := usd_le many
    have := hm.1
    rw [usdTo_all] at *
    have := ho s
    omega
theorem hdep_none {many : List Int} (hm : HM many) {s : Nat} (hs : s ∉ usd many) : hdep many s = 0 := by
  have hs' : s ∉ hsg (hst many many.length) := fun h => hs ((hst_sg many _).mem_iff.1 h)
  rw [hdep_eq]
  by_cases h1 : (hst many many.length).length = 1
  · rw [h1]
    obtain ⟨a, ha⟩ := List.length_eq_one_iff.1 h1
    rw [ha] at hs' ⊢
    show ho many s = 0
    unfold ho
    rw [ha, if_neg (fun h => hs' h.2)]
  · have hi := hst_HI hm (o := ho many) h1 (fun s => by unfold ho; rw [if_neg (fun h => h1 h.1)])
    rw [(hrun_spec _ _ _ (Nat.le_refl _) hi).2.2.1 s hs']
    unfold ho
    rw [if_neg (fun h => h1 h.1)]
theorem hdep_one {many : List Int} (h1 : (usd many).length = 1) {s : Nat} (hs : s ∈ usd many) : hdep many s = 1 := by
  have hl : (hst many many.length).length = 1 := by rw [hst_len, usdTo_all, h1]
  have hs' : s ∈ hsg (hst many many.length) := (hst_sg many _).mem_iff.2 hs
  rw [hdep_eq, hl]
  obtain ⟨a, ha⟩ := List.length_eq_one_iff.1 hl
  have e : hrun 1 (hst many many.length) (ho many) = ho many := by rw [ha]; rfl
  rw [e]
  unfold ho
  rw [if_pos ⟨hl, hs'⟩]
theorem hdep_many {many : List Int} (hm : HM many) (h2 : (usd many).length ≠ 1) :
    nsum (usd many) (fun s => hw many s * hdep many s) = hc (usd many).length ((hst many many.length).map (·.2)) ∧
    (usd many ≠ [] → nsum (usd many) (fun s => 2 ^ (64 - hdep many s)) = 2 ^ 64) ∧ (∀ s ∈ usd many, 1 ≤ hdep many s ∧ hdep many s ≤ 64) := by
  have hl : (hst many many.length).length = (usd many).length := by rw [hst_len, usdTo_all]
  have hne : (hst many many.length).length ≠ 1 := by rw [hl]; exact h2
  have h0 : ∀ s, ho many s = 0 := fun s => by unfold ho; rw [if_neg (fun h => hne h.1)]
  have hi := hst_HI hm (o := ho many) hne h0
  obtain ⟨i1, i2, i3, i4, i5⟩ := hrun_spec (hst many many.length).length _ _ (Nat.le_refl _) hi
  rw [← hdep_eq] at i1 i2 i3 i4 i5
  have hp : (hsg (hst many many.length)).Perm (usd many) := hst_sg many _
  rw [nsum_perm hp, nsum_perm hp, hl] at i1
  rw [nsum_perm hp] at i2
  refine ⟨?_, fun hne => i2 ?_, fun s hs => ?_⟩
  · rw [i1, nsum_congr (g := fun _ => 0) (fun s _ => by rw [h0 s, Nat.mul_zero])]
    have : ∀ l : List Nat, nsum l (fun _ => 0) = 0 := fun l => by
      induction l with
      | nil => rfl
      | cons a l ih => rw [nsum_cons, ih]
    rw [this, Nat.zero_add]
  · intro h; rw [h] at hl; exact hne (List.eq_nil_of_length_eq_zero hl.symm)
  · have hs' := hp.mem_iff.2 hs
    have hlen : 2 ≤ (hst many many.length).length := by
      have := List.length_pos_of_mem hs
      rw [hl]; omega
    have h3 := i4 hlen s hs'
    rw [h0 s] at h3
    exact ⟨by omega, (i5 s hs').2⟩
theorem hdep_pos {many : List Int} (hm : HM many) {s : Nat} (hs : s ∈ usd many) : 1 ≤ hdep many s := by
  by_cases h : (usd many).length = 1
  · rw [hdep_one h hs]; exact Nat.le_refl _
  · exact ((hdep_many hm h).2.2 s hs).1
theorem hdep_room {many : List Int} (hm : HM many) (h24 : ∀ s ∈ usd many, hdep many s ≤ 24) :
    nsum (usd many) (fun s => 2 ^ (24 - hdep many s)) = if (usd many).length = 0 then 0 else if (usd many).length = 1 then 2 ^ 23 else 2 ^ 24 := by
  by_cases h0 : (usd many).length = 0
  · rw [if_pos h0, List.eq_nil_of_length_eq_zero h0]; rfl
  · rw [if_neg h0]
    by_cases h : (usd many).length = 1
    · rw [if_pos h]
      obtain ⟨a, ha⟩ := List.length_eq_one_iff.1 h
      have := hdep_one h (s := a) (by rw [ha]; simp)
      rw [ha, nsum_cons, nsum_nil, this]
    · rw [if_neg h]
      have h1 := (hdep_many hm h).2.1 (fun e => h0 (by rw [e]; rfl))
      rw [nsum_congr (g := fun s => 2 ^ 40 * 2 ^ (24 - hdep many s)) (fun s hs => by
        have := h24 s hs
        rw [← Nat.pow_add, show 64 - hdep many s = 40 + (24 - hdep many s) by omega]), nsum_mul] at h1
      generalize nsum (usd many) (fun s => 2 ^ (24 - hdep many s)) = X at h1 ⊢
      omega
theorem nsum_const (l : List Nat) (c : Nat) : nsum l (fun _ => c) = l.length * c := by
  induction l with
  | nil => simp [nsum]
  | cons a l ih => rw [nsum_cons, ih, List.length_cons, Nat.add_mul]; omega
def hcst (many : List Int) : Nat := nsum (usd many) (fun s => hw many s * hdep many s)
def hsI (l : List Nat) : List Int := l.map fun (s : Nat) => (s : Int)
def cG (g : Grp) : List Int × Int := (hsI g.1, (g.2 : Int))
theorem sgn_lt (p q x y : Int) : (if (if p < q then (-1 : Int) else if q < p then 1 else 0) ≠ 0 then (if p < q then (-1 : Int) else if q < p then 1 else 0) else (if x < y then (-1 : Int) else if y < x then 1 else 0)) < 0 ↔ p < q ∨ (p = q ∧ x < y) := by
  by_cases h1 : p < q
  · simp [h1]
  · by_cases h2 : q < p
    · simp [h1, h2]; omega
    · by_cases h3 : x < y
      · simp [h1, h2, h3]; omega
      · by_cases h4 : y < x
        · simp [h1, h2, h3, h4]
        · simp [h1, h2, h3, h4]
theorem order_eq {F : Nat} {a b : Grp} (hF : 3 ≤ F) (ha : a.1 ≠ []) (hb : b.1 ≠ []) : ∃ z, M_huff_order F (cG a).1 (cG a).2 (cG b).1 (cG b).2 = some z ∧ (z < 0 ↔ glt a b = true) := by
  obtain ⟨la, wa⟩ := a
  obtain ⟨lb, wb⟩ := b
  cases la with
  | nil => exact absurd rfl ha
  | cons x ta =>
  cases lb with
  | nil => exact absurd rfl hb
  | cons y tb =>
  unfold M_huff_order
  have e1 : idx (cG (x :: ta, wa)).1 0 = some (x : Int) := by simp [idx, cG, hsI]
  have e2 : idx (cG (y :: tb, wb)).1 0 = some (y : Int) := by simp [idx, cG, hsI]
  rw [e1, e2]
  simp only [Option.bind_some]
  rw [compare_eq, compare_eq]
  simp only [Option.bind_some]
  rw [or_eq hF]
  simp only [Option.bind_some]
  refine ⟨_, rfl, (sgn_lt _ _ _ _).trans ?_⟩
  rw [glt_iff]
  show ((wa : Int) < (wb : Int) ∨ ((wa : Int) = (wb : Int) ∧ (x : Int) < (y : Int))) ↔ wa < wb ∨ (wa = wb ∧ x < y)
  omega
def gidx (g : Grp) : List Grp → Nat
  | [] => 0
  | h :: t => if glt h g then gidx g t + 1 else 0
theorem gins_idx (g : Grp) : ∀ l : List Grp, gins g l = l.take (gidx g l) ++ g :: l.drop (gidx g l)
  | [] => rfl
  | h :: t => by
    unfold gins gidx
    split
    · rw [gins_idx g t]; rfl
    · rfl
theorem gidx_le (g : Grp) : ∀ l : List Grp, gidx g l ≤ l.length
  | [] => Nat.le_refl _
  | h :: t => by
    unfold gidx
    split
    · have := gidx_le g t
      simp only [List.length_cons]; omega
    · omega
theorem gidx_iff {g : Grp} : ∀ {l : List Grp}, l.Pairwise (fun a b => glt a b = true) → ∀ {i : Nat} (hi : i < l.length), (i < gidx g l ↔ glt l[i] g = true)
  | [], _, i, hi => absurd hi (by simp)
  | h :: t, hp, i, hi => by
    rw [List.pairwise_cons] at hp
    unfold gidx
    cases i with
    | zero =>
      simp only [List.getElem_cons_zero]
      split
      · rename_i h1; simp [h1]
      · rename_i h1; simp [h1]
    | succ i =>
      simp only [List.getElem_cons_succ]
      have hi' : i < t.length := by simpa using hi
      split
      · rw [Nat.add_lt_add_iff_right]
        exact gidx_iff hp.2 hi'
      · rename_i h1
        refine ⟨fun h => by omega, fun h => absurd (glt_trans (hp.1 _ (List.getElem_mem hi')) h) h1⟩
theorem hmid {i j : Nat} (h : i + j < 1000000000) : iconv .i64 (ishr .u64 (iconv .u64 (iadd .i64 (i : Int) (j : Int))) 1) = (((i + j) / 2 : Nat) : Int) := by
  rw [iadd_n (by omega), show iconv .u64 ((i + j : Nat) : Int) = ((i + j : Nat) : Int) from wrap_u64 (by omega) (by omega), show (1 : Int) = ((1 : Nat) : Int) from rfl, ishr_n (by omega)]
  exact wrap_i64 (by omega) (by omega)
theorem cG_get {l : List Grp} {i : Nat} (hi : i < l.length) : idx (l.map cG) (i : Int) = some (cG l[i]) := by
  rw [idx_nat, List.getElem?_map, List.getElem?_eq_getElem hi]; rfl
theorem bsearch_l {F : Nat} {l : List Grp} {g : Grp} (hF : 3 ≤ F) (hl : l.length < 1000) (hp : l.Pairwise (fun a b => glt a b = true)) (hne : ∀ h ∈ l, h.1 ≠ []) (hg : g.1 ≠ []) : ∀ (k lo hi : Nat), hi - lo < k → lo ≤ gidx g l → gidx g l ≤ hi → hi ≤ l.length →
    ∃ b, M_slices_BinarySearchFunc_huff_heap_huff_group_huff_group_huff_order_l4 F (l.map cG) (cG g).1 (cG g).2 k ((lo : Int), (hi : Int)) = some ((gidx g l : Int), b)
  | 0, _, _, h, _, _, _ => absurd h (by omega)
  | k + 1, lo, hi, h, h1, h2, h3 => by
    show ∃ b, M_slices_BinarySearchFunc_huff_heap_huff_group_huff_group_huff_order_b4 F (l.map cG) (cG g).1 (cG g).2 (M_slices_BinarySearchFunc_huff_heap_huff_group_huff_group_huff_order_l4 F (l.map cG) (cG g).1 (cG g).2 k) (lo : Int) (hi : Int) = _
    unfold M_slices_BinarySearchFunc_huff_heap_huff_group_huff_group_huff_order_b4
    by_cases hlt : lo < hi
    · have hm : (lo + hi) / 2 < l.length := by omega
      rw [if_pos (by simp; omega), hmid (by omega)]
      simp only [lett]
      rw [cG_get hm]
      simp only [Option.bind_some]
      obtain ⟨z, hz, hz2⟩ := order_eq (F := F) (a := l[(lo + hi) / 2]) (b := g) hF (hne _ (List.getElem_mem hm)) hg
      rw [hz]
      simp only [Option.bind_some]
      have hk := gidx_iff (g := g) hp hm
      by_cases hc : z < 0
      · have := hk.2 (hz2.1 hc)
        rw [if_pos (by simpa using hc), iadd1_n (by omega)]
        exact bsearch_l hF hl hp hne hg k ((lo + hi) / 2 + 1) hi (by omega) (by omega) h2 h3
      · have : ¬ (lo + hi) / 2 < gidx g l := fun h => hc (hz2.2 (hk.1 h))
        rw [if_neg (by simpa using hc)]
        exact bsearch_l hF hl hp hne hg k lo ((lo + hi) / 2) (by omega) h1 (by omega) (by omega)
    · rw [if_neg (by simp; omega)]
      have e : lo = gidx g l := by omega
      unfold M_slices_BinarySearchFunc_huff_heap_huff_group_huff_group_huff_order_j2 M_slices_BinarySearchFunc_huff_heap_huff_group_huff_group_huff_order_j3
      by_cases hl2 : lo < l.length
      · rw [if_pos (by simp; omega), cG_get hl2]
        simp only [Option.bind_some]
        obtain ⟨z, hz, _⟩ := order_eq (F := F) (a := l[lo]) (b := g) hF (hne _ (List.getElem_mem hl2)) hg
        rw [hz]
        simp only [Option.bind_some]
        exact ⟨_, by rw [e]⟩
      · rw [if_neg (by simp; omega)]
        exact ⟨_, by rw [e]⟩
theorem push_eq {F : Nat} {l : List Grp} {g : Grp} (hF : 1000 ≤ F) (hl : l.length < 1000) (hp : l.Pairwise (fun a b => glt a b = true)) (hne : ∀ h ∈ l, h.1 ≠ []) (hg : g.1 ≠ []) :
    M_push F (l.map cG) (cG g).1 (cG g).2 = some (gidx g l : Int) ∧ insK (gidx g l : Int) (l.map cG) (cG g) = (gins g l).map cG := by
  have hle := gidx_le g l
  constructor
  · unfold M_push M_slices_BinarySearchFunc_huff_heap_huff_group_huff_group_huff_order
    obtain ⟨b, hb⟩ := bsearch_l (F := F) (g := g) (by omega) hl hp hne hg F 0 l.length (by omega) (Nat.zero_le _) hle (Nat.le_refl _)
    have hb' : M_slices_BinarySearchFunc_huff_heap_huff_group_huff_group_huff_order_l4 F (l.map cG) (cG g).1 (cG g).2 F (0, ((l.map cG).length : Int)) = some ((gidx g l : Int), b) := by rw [List.length_map]; exact hb
    rw [hb']
    simp only [Option.bind_some]
    rw [if_pos ⟨by omega, by simp only [List.length_map]; omega, by simp only [List.length_map]; omega⟩]
  · unfold insK
    rw [gins_idx, List.map_append, List.map_cons, List.map_take, List.map_drop, Int.toNat_natCast]
def hOut (l : List Int) : Bool := l.any fun n => decide (n < 0) || decide (1048576 < n)
def hchk (l : List Int) : Int := if 64 < l.length then 2 else if hOut l then 3 else 0
theorem hchk_ok {l : List Int} : hchk l = 0 ↔ HM l := by
  unfold hchk HM
  by_cases h1 : 64 < l.length
  · rw [if_pos h1]; simp; omega
  · rw [if_neg h1]
    by_cases h2 : hOut l = true
    · rw [if_pos h2]
      unfold hOut at h2
      obtain ⟨n, hn, hx⟩ := List.any_eq_true.1 h2
      refine ⟨fun h => by simp at h, fun h => ?_⟩
      have := h.2 n hn
      simp at hx; omega
    · rw [if_neg h2]
      refine ⟨fun _ => ⟨by omega, fun n hn => ?_⟩, fun _ => rfl⟩
      by_cases hx : n < 0 ∨ 1048576 < n
      · exact absurd (List.any_eq_true.2 ⟨n, hn, by simpa using hx⟩) h2
      · omega
theorem hindex_l {F : Nat} {l : List Int} (hm : l.length ≤ 1000000) : ∀ (k i : Nat), l.length < k + i → i ≤ l.length → ∃ z, M_slices_IndexFunc_int_int_huff_check_1_l3 F l k (i : Int) = some z ∧ decide (0 ≤ z) = hOut (l.drop i)
  | 0, _, _, _ => by omega
  | k + 1, i, h, hi => by
    show ∃ z, M_slices_IndexFunc_int_int_huff_check_1_b3 F l (M_slices_IndexFunc_int_int_huff_check_1_l3 F l k) (i : Int) = some z ∧ _
    unfold M_slices_IndexFunc_int_int_huff_check_1_b3
    by_cases hlt : i < l.length
    · rw [if_pos (by simp; omega), idx_nat, List.getElem?_eq_getElem hlt, List.drop_eq_getElem_cons hlt]
      simp only [Option.bind_some]
      unfold M_huff_check_1 M_huff_often
      simp only [Option.bind_some]
      unfold hOut
      rw [List.any_cons]
      by_cases hc : (decide (l[i] < 0) || decide (1048576 < l[i])) = true
      · have : (!(decide (0 ≤ l[i]) && decide (l[i] ≤ 1048576))) = true := by simp at hc ⊢; omega
        rw [this, if_pos rfl, hc]
        exact ⟨_, rfl, by simp⟩
      · have : (!(decide (0 ≤ l[i]) && decide (l[i] ≤ 1048576))) = false := by simp at hc ⊢; omega
        rw [this, if_neg (by simp), iadd1_n (by omega)]
        rw [Bool.not_eq_true] at hc
        rw [hc, Bool.false_or]
        exact hindex_l hm k (i + 1) (by omega) (by omega)
    · rw [if_neg (by simp; omega), List.drop_eq_nil_of_le (by omega)]
      exact ⟨-1, rfl, rfl⟩
theorem hcheck_eq {F : Nat} {l : List Int} (hF : 1000 ≤ F) : M_huff_check F l = some (hchk l) := by
  unfold M_huff_check hchk
  by_cases h : 64 < l.length
  · rw [if_pos (by simp; omega), if_pos h]
  · rw [if_neg (by simp; omega), if_neg h]
    unfold M_slices_ContainsFunc_int_int_huff_check_1 M_slices_IndexFunc_int_int_huff_check_1
    obtain ⟨z, e1, e2⟩ := hindex_l (F := F) (l := l) (by omega) F 0 (by omega) (by omega)
    have e1' : M_slices_IndexFunc_int_int_huff_check_1_l3 F l F 0 = some z := e1
    rw [List.drop_zero] at e2
    rw [e1']
    simp only [Option.bind_some]
    rw [e2]
    split <;> rfl
def dOut (l : List Int) : Bool := l.any fun n => decide (24 < n)
theorem dindex_l {F : Nat} {l : List Int} (hm : l.length ≤ 1000000) : ∀ (k i : Nat), l.length < k + i → i ≤ l.length → ∃ z, M_slices_IndexFunc_int_int_huff_Lengths_1_l3 F l k (i : Int) = some z ∧ decide (0 ≤ z) = dOut (l.drop i)
  | 0, _, _, _ => by omega
  | k + 1, i, h, hi => by
    show ∃ z, M_slices_IndexFunc_int_int_huff_Lengths_1_b3 F l (M_slices_IndexFunc_int_int_huff_Lengths_1_l3 F l k) (i : Int) = some z ∧ _
    unfold M_slices_IndexFunc_int_int_huff_Lengths_1_b3
    by_cases hlt : i < l.length
    · rw [if_pos (by simp; omega), idx_nat, List.getElem?_eq_getElem hlt, List.drop_eq_getElem_cons hlt]
      simp only [Option.bind_some]
      unfold M_huff_Lengths_1
      simp only [Option.bind_some]
      unfold dOut
      rw [List.any_cons]
      by_cases hc : decide (24 < l[i]) = true
      · rw [if_pos hc, hc]
        exact ⟨_, rfl, by simp⟩
      · rw [if_neg hc, iadd1_n (by omega)]
        rw [Bool.not_eq_true] at hc
        rw [hc, Bool.false_or]
        exact dindex_l hm k (i + 1) (by omega) (by omega)
    · rw [if_neg (by simp; omega), List.drop_eq_nil_of_le (by omega)]
      exact ⟨-1, rfl, rfl⟩
def oL (n : Nat) (o : Nat → Nat) : List Int := (List.range n).map fun s => (o s : Int)
theorem oL_len (n : Nat) (o : Nat → Nat) : (oL n o).length = n := by simp [oL]
theorem oL_get {n : Nat} {o : Nat → Nat} {s : Nat} (h : s < n) : (oL n o)[s]? = some (o s : Int) := by simp [oL, h]
theorem oL_set {n s : Nat} {o o' : Nat → Nat} (h : ∀ t, t < n → o' t = if t = s then o s + 1 else o t) (hs : s < n) : (oL n o).set s ((o s : Int) + 1) = oL n o' := by
  apply List.ext_getElem?
  intro t
  rw [List.getElem?_set, oL_len]
  by_cases ht : t < n
  · rw [oL_get ht, oL_get ht, h t ht]
    by_cases e : s = t
    · subst e
      rw [if_pos rfl, if_pos ht, if_pos rfl]; rfl
    · rw [if_neg e, if_neg (fun h => e h.symm)]
  · rw [List.getElem?_eq_none (by rw [oL_len]; omega), List.getElem?_eq_none (by rw [oL_len]; omega)]
    by_cases e : s = t
    · omega
    · rw [if_neg e]
def hfin (n : Nat) (o : Nat → Nat) : List Int × Int := if dOut (oL n o) then ([], 8) else (oL n o, 0)
theorem hend_eq {F n : Nat} {o : Nat → Nat} (hF : 1000 ≤ F) (hn : n ≤ 64) : M_huff_Lengths_j20 F (oL n o) = some (hfin n o) := by
  unfold M_huff_Lengths_j20 M_slices_ContainsFunc_int_int_huff_Lengths_1 M_slices_IndexFunc_int_int_huff_Lengths_1
  have hl := oL_len n o
  obtain ⟨z, e1, e2⟩ := dindex_l (F := F) (l := oL n o) (by omega) F 0 (by omega) (by omega)
  have e1' : M_slices_IndexFunc_int_int_huff_Lengths_1_l3 F (oL n o) F 0 = some z := e1
  rw [List.drop_zero] at e2
  rw [e1']
  simp only [Option.bind_some]
  rw [e2]
  unfold hfin
  split <;> rfl
theorem hsI_len (l : List Nat) : (hsI l).length = l.length := by simp [hsI]
theorem hsI_get {l : List Nat} {i : Nat} (h : i < l.length) : idx (hsI l) (i : Int) = some (l[i] : Int) := by
  rw [idx_nat]; simp [hsI, List.getElem?_eq_getElem h]
theorem hsI_sort (l : List Nat) : srt (hsI l) = hsI (srtN l) := by
  refine srt_eq (((srtN_perm l).symm).map _) ?_
  unfold hsI
  rw [List.pairwise_map]
  exact (srtN_sorted l).imp fun h => by omega
/-- Each of the joined signs is one deeper. -/
theorem bump_l {F n : Nat} {rec29 : (List Int × List (List Int × Int)) → Option (List Int × Int)} {p q : (List Int × Int) × List (List Int × Int)} {S : List Nat} {o : Nat → Nat} (hS : S.Nodup) (hb : ∀ s ∈ S, s < n) (ho : ∀ s ∈ S, o s ≤ 1000) (hl : S.length ≤ 1000) :
    ∀ (k j : Nat), S.length < k + j → j ≤ S.length → M_huff_Lengths_l33 F rec29 p q (hsI S) k (oL n (gbump o (S.take j)), (j : Int)) = M_huff_Lengths_j32 F rec29 p q (hsI S) (oL n (gbump o S))
  | 0, _, _, _ => by omega
  | k + 1, j, h, hj => by
    show M_huff_Lengths_b33 F rec29 p q (hsI S) (M_huff_Lengths_l33 F rec29 p q (hsI S) k) (oL n (gbump o (S.take j))) (j : Int) = _
    unfold M_huff_Lengths_b33
    by_cases hlt : j < S.length
    · have hm := List.getElem_mem hlt
      have hs := hb _ hm
      rw [if_pos (by simp [hsI_len]; omega), hsI_get hlt]
      simp only [Option.bind_some]
      have hnot : S[j] ∉ S.take j := by
        intro hmem
        obtain ⟨i, hi, e⟩ := List.getElem_of_mem hmem
        rw [List.getElem_take] at e
        have hi' : i < j := by simp at hi; omega
        have := (List.getElem_inj hS).1 e
        omega
      have hv : gbump o (S.take j) S[j] = o S[j] := by unfold gbump; rw [if_neg hnot]
      have ho' := ho _ hm
      rw [idx_nat, oL_get hs, hv]
      simp only [Option.bind_some, lett]
      rw [Int.toNat_natCast, iadd_i64 (by omega) (by omega), iadd1_n (by omega)]
      rw [← hv, oL_set (o' := gbump o (S.take (j + 1))) (fun t _ => ?_) hs]
      · exact bump_l hS hb ho hl k (j + 1) (by omega) (by omega)
      · rw [hv]
        unfold gbump
        rw [take_snoc hlt]
        simp only [List.mem_append, List.mem_singleton]
        by_cases e : t = S[j]
        · subst e
          rw [if_pos (.inr rfl), if_pos rfl]
        · rw [if_neg e]
          by_cases h1 : t ∈ S.take j
          · rw [if_pos (.inl h1), if_pos h1]
          · rw [if_neg (by rintro (h | h) <;> contradiction), if_neg h1]
    · rw [if_neg (by simp [hsI_len]; omega), List.take_of_length_le (by omega)]
theorem hrun_l {F n : Nat} {w : Nat → Nat} (hF : 20000 ≤ F) (hn : n ≤ 64) : ∀ (k : Nat) (h : List Grp) (o : Nat → Nat), h.length < k → (h.length = 1 ∨ HI w h o) → (∀ s ∈ hsg h, s < n) → nsum (hsg h) w ≤ 1000000000 →
    M_huff_Lengths_l29 F k (oL n o, h.map cG) = some (hfin n (hrun h.length h o))
  | 0, _, _, hk, _, _, _ => absurd hk (by omega)
  | k + 1, h, o, hk, hi, hb, hW => by
    show M_huff_Lengths_b29 F (M_huff_Lengths_l29 F k) (oL n o) (h.map cG) = _
    unfold M_huff_Lengths_b29
    match h, hi with
    | [], _ => rw [if_neg (by simp)]; exact hend_eq (by omega) hn
    | [a], _ => rw [if_neg (by simp)]; exact hend_eq (by omega) hn
    | a :: b :: t, hi =>
      have hi : HI w (a :: b :: t) o := hi.resolve_left (by simp)
      have hs := hi.step
      rw [if_pos (by simp; omega)]
      simp only [List.map_cons, popM, Option.bind_some]
      have hperm : (hsg (gins (gmerge a b) t)).Perm (hsg (a :: b :: t)) := hsg_merge
      have hnd : (a.1 ++ b.1).Nodup := by
        have h1 : (a.1 ++ (b.1 ++ hsg t)).Nodup := hi.nd
        rw [← List.append_assoc] at h1
        exact (List.nodup_append.1 h1).1
      have hmab : ∀ s ∈ a.1 ++ b.1, s ∈ hsg (a :: b :: t) := fun s hs => by
        refine mem_hsg.2 ?_
        rcases List.mem_append.1 hs with hs | hs
        · exact ⟨a, by simp, hs⟩
        · exact ⟨b, by simp, hs⟩
      have hlab : (a.1 ++ b.1).length ≤ 64 := by
        have h1 := List.Nodup.length_le_of_subset hnd (fun s hs => List.mem_range.2 (hb s (hmab s hs)))
        rw [List.length_range] at h1
        omega
      rw [List.length_append] at hlab
      have e1 : (cG a).1 = hsI a.1 := rfl
      have e2 : (cG b).1 = hsI b.1 := rfl
      rw [e1, e2, concat_eq hF (by rw [hsI_len, hsI_len]; omega)]
      simp only [Option.bind_some]
      have e3 : hsI a.1 ++ hsI b.1 = hsI (a.1 ++ b.1) := by simp [hsI]
      rw [e3]
      unfold M_huff_Lengths_j30 M_slices_Sort_int_int
      rw [if_pos (by rw [hsI_len, List.length_append]; omega)]
      simp only [Option.bind_some]
      rw [hsI_sort]
      have hsl : (srtN (a.1 ++ b.1)).length = (a.1 ++ b.1).length := (srtN_perm _).length_eq
      unfold chk
      rw [if_pos (by simp [hsI_len, hsl])]
      have hmem : ∀ s, s ∈ srtN (a.1 ++ b.1) ↔ s ∈ a.1 ++ b.1 := fun s => (srtN_perm _).mem_iff
      have hbump := bump_l (F := F) (n := n) (rec29 := M_huff_Lengths_l29 F k) (p := (cG a, cG b :: t.map cG)) (q := (cG b, t.map cG)) (S := srtN (a.1 ++ b.1)) (o := o) ((srtN_perm _).nodup_iff.2 hnd) (fun s hs => hb s (hmab s ((hmem s).1 hs)))
        (fun s hs => by have := hi.low s (hmab s ((hmem s).1 hs)); omega) (by rw [hsl, List.length_append]; omega) F 0 (by rw [hsl, List.length_append]; omega) (Nat.zero_le _)
      have e4 : gbump o ((srtN (a.1 ++ b.1)).take 0) = o := by funext s; simp [gbump]
      have e5 : gbump o (srtN (a.1 ++ b.1)) = gbump o (a.1 ++ b.1) := by
        funext s
        unfold gbump
        by_cases h1 : s ∈ a.1 ++ b.1
        · rw [if_pos h1, if_pos ((hmem s).2 h1)]
        · rw [if_neg h1, if_neg (fun h => h1 ((hmem s).1 h))]
      rw [e4, e5] at hbump
      have hbump' : M_huff_Lengths_l33 F (M_huff_Lengths_l29 F k) (cG a, cG b :: t.map cG) (cG b, t.map cG) (hsI (srtN (a.1 ++ b.1))) F (oL n o, 0) = _ := hbump
      rw [hbump']
      unfold M_huff_Lengths_j32
      have hww : a.2 + b.2 ≤ nsum (hsg (a :: b :: t)) w := by
        have h1 : hsg (a :: b :: t) = a.1 ++ (b.1 ++ hsg t) := rfl
        rw [h1, nsum_app, nsum_app, hi.wt a (by simp), hi.wt b (by simp)]
        omega
      have hw1 : iadd .i64 (cG a).2 (cG b).2 = ((a.2 + b.2 : Nat) : Int) := iadd_n (by omega)
      simp only []
      rw [hw1]
      have hp := hi.ord
      rw [List.pairwise_cons, List.pairwise_cons] at hp
      have hpush := push_eq (F := F) (l := t) (g := gmerge a b) (by omega) (by have := hi.low _ (mem_hsg.2 ⟨a, by simp, head_mem (hi.ne a (by simp))⟩); simp only [List.length_cons] at this; omega) hp.2.2 (fun g hg => hi.ne g (by simp [hg])) (hs.ne _ ((gins_perm _ _).mem_iff.2 (by simp)))
      have e6 : (cG (gmerge a b)).1 = hsI (srtN (a.1 ++ b.1)) := rfl
      have e7 : (cG (gmerge a b)).2 = ((a.2 + b.2 : Nat) : Int) := rfl
      rw [e6, e7] at hpush
      rw [hpush.1]
      simp only [Option.bind_some]
      have e8 : ((hsI (srtN (a.1 ++ b.1)), ((a.2 + b.2 : Nat) : Int)) : List Int × Int) = cG (gmerge a b) := rfl
      rw [e8, hpush.2]
      have hlen := gins_len (gmerge a b) t
      simp only [List.length_cons] at hk
      rw [hrun_l hF hn k _ _ (by omega) (.inr hs) (fun s hs => hb s (hperm.mem_iff.1 hs)) (by rw [nsum_perm hperm]; exact hW), hlen]
      rfl
theorem hput_l {F : Nat} {many : List Int} (hF : 20000 ≤ F) (hm : HM many) : ∀ (k i : Nat), many.length < k + i → i ≤ many.length →
    M_huff_Lengths_l36 F many k ((i : Int), (hst many i).map cG) = M_huff_Lengths_j5 F many ((hst many many.length).map cG)
  | 0, _, _, _ => by omega
  | k + 1, i, h, hi => by
    show M_huff_Lengths_b36 F many (M_huff_Lengths_l36 F many k) (i : Int) ((hst many i).map cG) = _
    unfold M_huff_Lengths_b36
    have hm1 := hm.1
    by_cases hlt : i < many.length
    · have hn := hm.at hlt
      rw [if_pos (by simp; omega), idx_nat, gL_get hlt]
      simp only [Option.bind_some]
      have hrec := hput_l (F := F) hF hm k (i + 1) (by omega) (by omega)
      unfold M_huff_Lengths_j37
      rw [iadd1_n (by omega)]
      rw [show hst many (i + 1) = (if 0 < gL many i then gins ([i], hw many i) (hst many i) else hst many i) from rfl] at hrec
      by_cases h0 : 0 < gL many i
      · rw [if_pos h0] at hrec
        rw [if_pos (by simpa using h0)]
        have hw1 : ((hw many i : Nat) : Int) = gL many i := by unfold hw; omega
        have hlen : (hst many i).length < 1000 := by
          rw [hst_len]
          have := List.length_filter_le (fun t => decide (0 < gL many t)) (List.range i)
          rw [List.length_range] at this
          have : (usdTo many i).length ≤ i := this
          omega
        have hp := push_eq (F := F) (l := hst many i) (g := ([i], hw many i)) (by omega) hlen (hst_ord many i) (fun g hg => by obtain ⟨s, _, rfl⟩ := hst_one many i g hg; simp) (by simp)
        have e1 : cG ([i], hw many i) = ([(i : Int)], gL many i) := by simp [cG, hsI, hw1]
        rw [e1] at hp
        simp only at hp
        rw [hp.1]
        simp only [Option.bind_some]
        rw [hp.2]
        exact hrec
      · rw [if_neg h0] at hrec
        rw [if_neg (by simpa using h0)]
        exact hrec
    · rw [if_neg (by simp; omega)]
      have : i = many.length := by omega
      subst this; rfl
theorem hmk_rep {α : Type} {lim n : Nat} {y : α} (h : n ≤ lim) : mk lim y (n : Int) = some (List.replicate n y) := by
  unfold mk
  rw [if_pos ⟨by omega, by omega⟩, Int.toNat_natCast]
def hlenM (many : List Int) : List Int × Int := if hchk many ≠ 0 then ([], hchk many) else hfin many.length (hdep many)
theorem nsum_bound {l : List Nat} {f : Nat → Nat} {c : Nat} (h : ∀ s ∈ l, f s ≤ c) : nsum l f ≤ l.length * c := by
  rw [← nsum_const]
  exact nsum_le h
theorem lengths_eq {F : Nat} {many : List Int} (hF : 20000 ≤ F) : M_huff_Lengths F many = some (hlenM many) := by
  unfold M_huff_Lengths hlenM
  rw [hcheck_eq (by omega)]
  simp only [Option.bind_some]
  by_cases hc : hchk many = 0
  · rw [if_neg (by simp [hc]), if_neg (by simp [hc])]
    have hm := hchk_ok.1 hc
    have hm1 := hm.1
    have h1 := hput_l (F := F) hF hm F 0 (by omega) (by omega)
    have h1' : M_huff_Lengths_l36 F many F (0, ([] : List (List Int × Int))) = _ := h1
    rw [h1']
    unfold M_huff_Lengths_j5
    rw [hmk_rep (by omega)]
    simp only [Option.bind_some]
    have e0 : List.replicate many.length (0 : Int) = oL many.length (fun _ => 0) := by
      apply List.ext_getElem?
      intro i
      by_cases h : i < many.length
      · rw [oL_get h]; simp [h]
      · rw [List.getElem?_eq_none (by simp; omega), List.getElem?_eq_none (by rw [oL_len]; omega)]
    rw [e0]
    have hsgp := hst_sg many many.length
    have hb : ∀ s ∈ hsg (hst many many.length), s < many.length := fun s hs => (mem_usd.1 (hsgp.mem_iff.1 hs)).1
    have hlen : (hst many many.length).length ≤ 64 := by
      rw [hst_len, usdTo_all]
      have := usd_le many
      omega
    have hW : nsum (hsg (hst many many.length)) (hw many) ≤ 1000000000 := by
      rw [nsum_perm hsgp, usdTo_all]
      have h2 := nsum_bound (l := usd many) (f := hw many) (c := 1048576) (fun s hs => by
        have := hm.at (mem_usd.1 hs).1
        unfold hw; omega)
      have := usd_le many
      have : (usd many).length * 1048576 ≤ 64 * 1048576 := Nat.mul_le_mul_right _ (by omega)
      omega
    by_cases hone : (hst many many.length).length = 1
    · obtain ⟨g, hg⟩ := List.length_eq_one_iff.1 hone
      obtain ⟨s, hs, rfl⟩ := hst_one many many.length g (by rw [hg]; simp)
      rw [if_pos (by rw [List.length_map, hone]; rfl)]
      have e1 : idx ((hst many many.length).map cG) 0 = some ([(s : Int)], (hw many s : Int)) := by rw [hg]; rfl
      rw [e1]
      simp only [Option.bind_some]
      have e2 : idx ([(s : Int)] : List Int) 0 = some (s : Int) := rfl
      rw [e2]
      simp only [Option.bind_some]
      rw [idx_nat, oL_get hs]
      simp only [Option.bind_some, lett]
      rw [Int.toNat_natCast]
      have e3 : (oL many.length (fun _ => 0)).set s 1 = oL many.length (ho many) := by
        have h3 := oL_set (n := many.length) (s := s) (o := fun _ => 0) (o' := ho many) (fun t _ => by
          unfold ho
          rw [hg]
          by_cases e : t = s
          · subst e; simp [hsg]
          · rw [if_neg (by simp [hsg, e]), if_neg e]) hs
        exact h3
      rw [e3]
      unfold M_huff_Lengths_j6
      rw [hrun_l (w := hw many) hF hm1 F _ _ (by omega) (.inl hone) hb hW, hdep_eq]
    · rw [if_neg (by rw [List.length_map]; simp; omega)]
      unfold M_huff_Lengths_j6
      have e4 : (fun _ : Nat => 0) = ho many := by
        funext s
        unfold ho
        rw [if_neg (fun h => hone h.1)]
      rw [e4, hrun_l (w := hw many) hF hm1 F _ _ (by omega) (.inr (hst_HI hm hone (fun s => by unfold ho; rw [if_neg (fun h => hone h.1)]))) hb hW, hdep_eq]
  · rw [if_pos (by simpa using hc), if_pos hc]
theorem same_ints {F : Nat} {xs ys : List Int} (hF : ys.length < F) (hm : ys.length ≤ 9223372036854775807) : M_R_SameInts F xs ys = some (decide (xs = ys)) := by
  rw [sameInts_same]
  by_cases h : xs.length = ys.length
  · rw [sameBytes_eq (by omega) (by omega)]
  · unfold M_R_SameBytes
    rw [if_pos (by rw [bne_iff_ne]; omega), decide_eq_false (fun e => h (by rw [e]))]
def cmpb (x y : List Int) : Bool := decide (x.take y.length = y.take x.length)
theorem cmpb_min {x y : List Int} : cmpb x y = decide (x.take (min y.length x.length) = y.take (min y.length x.length)) := by
  unfold cmpb
  refine decide_eq_decide.2 ?_
  by_cases h : y.length ≤ x.length
  · rw [Nat.min_eq_left h, List.take_of_length_le (l := y) h, List.take_of_length_le (l := y) (Nat.le_refl _)]
  · rw [Nat.min_eq_right (by omega), List.take_of_length_le (l := x) (by omega : x.length ≤ y.length), List.take_of_length_le (l := x) (Nat.le_refl _)]
theorem begins_l {F at_ : Nat} {x y : List Int} (hx : Bit x) (hy : Bit y) (hxm : x.length ≤ 8192) (hym : y.length ≤ 8192) (ha : at_ ≤ x.length) : ∀ (k i : Nat), min y.length (x.drop at_).length < k + i → i ≤ min y.length (x.drop at_).length → (x.drop at_).take i = y.take i →
    M_kraft_begins_l3 F (x.length : Int) (pk x) (at_ : Int) (y.length : Int) (pk y) k (i : Int) = some (cmpb (x.drop at_) y)
  | 0, _, _, _, _ => by omega
  | k + 1, i, h, hi, he => by
    have hmin : imin (y.length : Int) (isub .i64 (x.length : Int) (at_ : Int)) = ((min y.length (x.drop at_).length : Nat) : Int) := by
      rw [isub_n ha (by omega), List.length_drop]
      unfold imin
      split <;> omega
    show M_kraft_begins_b3 F (x.length : Int) (pk x) (at_ : Int) (y.length : Int) (pk y) (M_kraft_begins_l3 F (x.length : Int) (pk x) (at_ : Int) (y.length : Int) (pk y) k) (i : Int) = _
    unfold M_kraft_begins_b3
    rw [hmin]
    by_cases hlt : i < min y.length (x.drop at_).length
    · have hiy : i < y.length := by omega
      have hix : i < (x.drop at_).length := by omega
      have hixx : at_ + i < x.length := by rw [List.length_drop] at hix; omega
      rw [if_pos (by simpa using hlt), iadd_n (by omega), at_pk hx (by omega) hixx]
      simp only [Option.bind_some]
      rw [at_pk hy (by omega) hiy]
      simp only [Option.bind_some]
      have hd : (x.drop at_)[i] = x[at_ + i] := List.getElem_drop
      by_cases hc : x[at_ + i] = y[i]
      · rw [if_neg (by simpa using hc), iadd1_n (by omega)]
        refine begins_l hx hy hxm hym ha k (i + 1) (by omega) (by omega) ?_
        rw [take_snoc hix, take_snoc hiy, he, hd, hc]
      · rw [if_pos (by simpa using hc)]
        congr 1
        symm
        rw [cmpb_min]
        refine decide_eq_false fun h2 => hc ?_
        have this : ((x.drop at_).take (min y.length (x.drop at_).length))[i]? = (y.take (min y.length (x.drop at_).length))[i]? := congrArg (fun z : List Int => z[i]?) h2
        rw [List.getElem?_take_of_lt hlt, List.getElem?_take_of_lt hlt, List.getElem?_eq_getElem hix, List.getElem?_eq_getElem hiy] at this
        rw [← hd]
        exact Option.some.inj this
    · rw [if_neg (show ¬ decide (((i : Nat) : Int) < ((min y.length (x.drop at_).length : Nat) : Int)) = true by rw [decide_eq_true_eq]; omega)]
      unfold M_kraft_begins_j2
      congr 1
      symm
      rw [cmpb_min, show min y.length (x.drop at_).length = i by omega]
      exact decide_eq_true he
theorem begins_eq {F at_ : Nat} {x y : List Int} (hF : 20000 ≤ F) (hx : Bit x) (hy : Bit y) (hxm : x.length ≤ 8192) (hym : y.length ≤ 8192) (ha : at_ ≤ x.length) :
    M_kraft_begins F (x.length : Int) (pk x) (at_ : Int) (y.length : Int) (pk y) = some (cmpb (x.drop at_) y) := by
  unfold M_kraft_begins
  exact begins_l hx hy hxm hym ha F 0 (by omega) (by omega) rfl
def enc1 (x : List Int) : Int × List Int := ((x.length : Int), pk x)
def BL (xs : List (List Int)) : Prop := ∀ x ∈ xs, Bit x ∧ x.length ≤ 8192
theorem BL.at {xs : List (List Int)} (h : BL xs) (i : Nat) : Bit (xs.getD i []) ∧ (xs.getD i []).length ≤ 8192 := by
  by_cases hi : i < xs.length
  · have : xs.getD i [] = xs[i] := by simp [List.getD, List.getElem?_eq_getElem hi]
    rw [this]; exact h _ (List.getElem_mem hi)
  · have : xs.getD i [] = [] := by simp [List.getD, List.getElem?_eq_none (show xs.length ≤ i by omega)]
    rw [this]; exact ⟨fun x hx => by simp at hx, by simp⟩
theorem enc_get {xs : List (List Int)} {i : Nat} (h : i < xs.length) : (xs.map enc1)[i]? = some (((xs.getD i []).length : Int), pk (xs.getD i [])) := by
  have : xs.getD i [] = xs[i] := by simp [List.getD, List.getElem?_eq_getElem h]
  rw [List.getElem?_map, List.getElem?_eq_getElem h, this]; rfl
def bad (xs : List (List Int)) (i k : Nat) : Bool := decide (0 < (xs.getD i []).length) && (decide (0 < (xs.getD k []).length) && cmpb (xs.getD i []) (xs.getD k []))
def strt (x y : List Int) : Bool := decide (y.length ≤ x.length) && decide (x.take y.length = y)
theorem rsame_ints {F : Nat} {xs ys : List Int} (hF : xs.length < F) (hm : xs.length ≤ 1000000) : M_R_SameInts F xs ys = some (decide (xs = ys)) := by
  by_cases h : xs.length = ys.length
  · exact same_ints (by omega) (by omega)
  · have : xs ≠ ys := fun e => h (by rw [e])
    unfold M_R_SameInts
    rw [if_pos (by simp; omega), decide_eq_false this]
theorem starts_eq {F : Nat} {x y : List Int} (hF : y.length < F) (hm : y.length ≤ 1000000) : M_R_Starts F x y = some (strt x y) := by
  unfold M_R_Starts M_R_Starts_j1 strt
  by_cases h : y.length ≤ x.length
  · have hs := sub_n (l := x) (i := 0) (j := y.length) (by omega) h
    rw [show ((0 : Nat) : Int) = 0 from rfl, List.drop_zero] at hs
    rw [if_pos (by simp; omega), hs]
    simp only [Option.bind_some]
    have hl : (x.take y.length).length = y.length := by rw [List.length_take]; omega
    rw [rsame_ints (by omega) (by omega), decide_eq_true h, Bool.true_and]
    rfl
  · rw [if_neg (by simp; omega), decide_eq_false h, Bool.false_and]
theorem bitList_pk {F : Nat} (hF : 20000 ≤ F) {x : List Int} (hx : Bit x) (hm : x.length ≤ 8192) : M_R_BitList F (x.length : Int) (pk x) = some x := by
  rw [bitList_eq hF (pk_u8 hx) (by rw [pk_len]; omega) (by omega), bl_pk hx]
def dsl (l : List Int) : List (List Int) := (List.range l.length).map (cd l)
theorem dsl_len (l : List Int) : (dsl l).length = l.length := by simp [dsl]
theorem cd_len (l : List Int) (s : Nat) : (cd l s).length = (gL l s).toNat := nb_len _ _
theorem cds_enc {l : List Int} (hl : KL l) : cds l = (dsl l).map enc1 := by
  unfold cds dsl
  rw [List.map_map]
  refine List.map_congr_left fun s hs => ?_
  have := hl.at (List.mem_range.1 hs)
  show ent l s = enc1 (cd l s)
  unfold ent enc1
  rw [cd_len, Int.toNat_of_nonneg this.1]
theorem dsl_BL {l : List Int} (hl : KL l) : BL (dsl l) := fun x hx => by
  obtain ⟨s, hs, rfl⟩ := List.mem_map.1 hx
  have := hl.at (List.mem_range.1 hs)
  exact ⟨nb_bit _ _, by rw [cd_len]; omega⟩
def hit (d X : List Int) : Bool := decide (0 < d.length) && (decide (d.length ≤ X.length) && cmpb X d)
def part (d X : List Int) : Bool := decide (X.length < d.length) && cmpb X d
def fndM (ds : List (List Int)) (X : List Int) (at_ : Nat) : Int × Int × Int := match (List.range ds.length).find? (fun s => hit (ds.getD s []) X) with
  | some s => ((s : Int), ((at_ + (ds.getD s []).length : Nat) : Int), 0)
  | none => (0, 0, if (List.range ds.length).any (fun s => part (ds.getD s []) X) then 7 else 5)
theorem any_succ {p : Nat → Bool} {s : Nat} : (List.range (s + 1)).any p = ((List.range s).any p || p s) := by
  rw [List.range_succ, List.any_append]; simp
theorem found_l {F at_ : Nat} {ds : List (List Int)} {x : List Int} (hF : 20000 ≤ F) (hB : BL ds) (hm : ds.length ≤ 1000) (hx : Bit x) (hxm : x.length ≤ 8192) (ha : at_ ≤ x.length) : ∀ (k s : Nat), ds.length < k + s → s ≤ ds.length → ((List.range ds.length).take s).find? (fun s => hit (ds.getD s []) (x.drop at_)) = none →
    M_kraft_Found_l18 F (ds.map enc1) (x.length : Int) (pk x) (at_ : Int) k (if (List.range s).any (fun s => part (ds.getD s []) (x.drop at_)) then 7 else 5, (s : Int)) = some (fndM ds (x.drop at_) at_)
  | 0, _, _, _, _ => by omega
  | k + 1, s, h, hs, hno => by
    show M_kraft_Found_b18 F (ds.map enc1) (x.length : Int) (pk x) (at_ : Int) (M_kraft_Found_l18 F (ds.map enc1) (x.length : Int) (pk x) (at_ : Int) k) (if (List.range s).any (fun s => part (ds.getD s []) (x.drop at_)) then 7 else 5) (s : Int) = _
    unfold M_kraft_Found_b18 M_kraft_Found_j21 M_kraft_Found_j20
    by_cases hlt : s < ds.length
    · have hrec := found_l (F := F) hF hB hm hx hxm ha k (s + 1) (by omega) (by omega)
      obtain ⟨b1, b2⟩ := hB.at s
      have hdl : (x.drop at_).length = x.length - at_ := by simp
      have htk : (List.range ds.length).take (s + 1) = (List.range ds.length).take s ++ [s] := by rw [take_snoc (by simp; omega), List.getElem_range]
      rw [htk, List.find?_append, hno, Option.none_or, any_succ] at hrec
      rw [if_pos (by simp; omega), idx_nat, enc_get hlt]
      simp only [Option.bind_some]
      rw [iadd1_n (by omega)]
      by_cases h0 : (ds.getD s []).length = 0
      · have e1 : hit (ds.getD s []) (x.drop at_) = false := by unfold hit; rw [decide_eq_false (by omega), Bool.false_and]
        have e2 : part (ds.getD s []) (x.drop at_) = false := by unfold part; rw [decide_eq_false (by omega), Bool.false_and]
        rw [if_pos (show (((ds.getD s []).length : Int) == 0) = true by rw [beq_iff_eq]; omega), if_pos trivial]
        rw [e2, Bool.or_false] at hrec
        exact hrec (by simp only [List.find?_cons, e1, List.find?_nil])
      · rw [if_neg (show ¬ (((ds.getD s []).length : Int) == 0) = true by rw [beq_iff_eq]; omega), begins_eq hF hx b1 hxm b2 ha]
        simp only [Option.bind_some]
        by_cases hc : cmpb (x.drop at_) (ds.getD s []) = true
        · rw [hc, if_neg (by simp), isub_n ha (by omega)]
          by_cases hsh : x.length - at_ < (ds.getD s []).length
          · have e1 : hit (ds.getD s []) (x.drop at_) = false := by unfold hit; rw [decide_eq_false (show ¬ (ds.getD s []).length ≤ (x.drop at_).length by omega), Bool.false_and, Bool.and_false]
            have e2 : part (ds.getD s []) (x.drop at_) = true := by unfold part; rw [decide_eq_true (by omega), hc]; rfl
            rw [if_pos (show decide (((x.length - at_ : Nat) : Int) < ((ds.getD s []).length : Int)) = true by rw [decide_eq_true_eq]; omega)]
            rw [e2, Bool.or_true, if_pos rfl] at hrec
            exact hrec (by simp only [List.find?_cons, e1, List.find?_nil])
          · have e1 : hit (ds.getD s []) (x.drop at_) = true := by unfold hit; rw [decide_eq_true (by omega), decide_eq_true (show (ds.getD s []).length ≤ (x.drop at_).length by omega), hc]; rfl
            rw [if_neg (show ¬ decide (((x.length - at_ : Nat) : Int) < ((ds.getD s []).length : Int)) = true by rw [decide_eq_true_eq]; omega), iadd_n (by omega)]
            unfold fndM
            have hfd : (List.range ds.length).find? (fun s => hit (ds.getD s []) (x.drop at_)) = some s := by
              have : List.range ds.length = (List.range ds.length).take (s + 1) ++ (List.range ds.length).drop (s + 1) := (List.take_append_drop _ _).symm
              rw [this, htk, List.find?_append, List.find?_append, hno, Option.none_or, List.find?_cons, e1]; rfl
            rw [hfd]
        · rw [Bool.not_eq_true] at hc
          have e1 : hit (ds.getD s []) (x.drop at_) = false := by unfold hit; rw [hc, Bool.and_false, Bool.and_false]
          have e2 : part (ds.getD s []) (x.drop at_) = false := by unfold part; rw [hc, Bool.and_false]
          rw [hc, if_pos (by simp)]
          rw [e2, Bool.or_false] at hrec
          exact hrec (by simp only [List.find?_cons, e1, List.find?_nil])
    · rw [if_neg (by simp; omega)]
      have : s = ds.length := by omega
      subst this
      rw [List.take_of_length_le (by simp)] at hno
      unfold M_kraft_Found_j11 fndM
      rw [hno]
theorem found_eq {F at_ : Nat} {ds : List (List Int)} {x : List Int} (hF : 20000 ≤ F) (hB : BL ds) (hm : ds.length ≤ 1000) (hx : Bit x) (hxm : x.length ≤ 8192) (ha : at_ ≤ x.length) : M_kraft_Found F (ds.map enc1) (x.length : Int) (pk x) (at_ : Int) = some (fndM ds (x.drop at_) at_) := by
  unfold M_kraft_Found
  have := found_l (F := F) hF hB hm hx hxm ha F 0 (by omega) (by omega) (by simp)
  exact this
def signM (l : List Int) (m : Int) (b : List Int) (a : Int) : Int × Int × Int :=
  if (codesM l).2 ≠ 0 then (0, 0, (codesM l).2) else if raOf m b a ≠ 0 then (0, 0, raOf m b a) else fndM (dsl l) ((bl b m.toNat).drop a.toNat) a.toNat
theorem codesM_ok {l : List Int} (h : (codesM l).2 = 0) : KL l ∧ wsum l ≤ 16777216 ∧ codesM l = (cds l, 0) := by
  unfold codesM at h ⊢
  by_cases h1 : kchk l = 0
  · rw [if_neg (by simp [h1])] at h ⊢
    by_cases h2 : 16777216 < wsum l
    · rw [if_pos h2] at h; simp at h
    · rw [if_neg h2]; exact ⟨kchk_ok.1 h1, by omega, rfl⟩
  · rw [if_pos h1] at h; exact absurd h h1
theorem ra_ok {m a : Int} {b : List Int} (hb : U8s b) (h : raOf m b a = 0) : ∃ (n i : Nat), m = (n : Int) ∧ a = (i : Int) ∧ i ≤ n ∧ n ≤ 8192 ∧ Ok n b ∧ pk (bl b n) = b := by
  unfold raOf at h
  by_cases h1 : chkOf m b = 0
  · rw [if_neg (by simp [h1])] at h
    by_cases h2 : a < 0 ∨ m < a
    · rw [if_pos h2] at h; simp at h
    · obtain ⟨n, hn, ob⟩ := chkOf_ok h1
      obtain ⟨i, hi⟩ := Int.eq_ofNat_of_zero_le (show 0 ≤ a by omega)
      exact ⟨n, i, hn, hi, by omega, ob.max, ob, pk_bl hb ob⟩
  · rw [if_pos h1] at h; exact absurd h h1
theorem cmp_part {d X : List Int} (h : X.length < d.length) : cmpb X d = strt d X := by
  unfold cmpb strt
  rw [decide_eq_true (show X.length ≤ d.length by omega), Bool.true_and]
  refine decide_eq_decide.2 ?_
  rw [List.take_of_length_le (l := X) (by omega)]
  exact eq_comm
theorem cmp_hit {d X : List Int} (h : d.length ≤ X.length) : cmpb X d = strt X d := by
  unfold cmpb strt
  rw [decide_eq_true h, Bool.true_and]
  refine decide_eq_decide.2 ?_
  rw [List.take_of_length_le (l := d) h]
theorem rsign_l {F at_ : Nat} {ds : List (List Int)} {X : List Int} {c : Int} (hF : 20000 ≤ F) (hB : BL ds) (hm : ds.length ≤ 1000) (hX : X.length ≤ 8192) (ha : at_ ≤ 8192) : ∀ (k s : Nat), ds.length < k + s → s ≤ ds.length → ((List.range ds.length).take s).find? (fun s => hit (ds.getD s []) X) = none →
    M_R_KraftSign_l46 F (at_ : Int) (ds.map enc1, c) X k ((List.range s).any (fun s => part (ds.getD s []) X), (s : Int)) = some (fndM ds X at_)
  | 0, _, _, _, _ => by omega
  | k + 1, s, h, hs, hno => by
    show M_R_KraftSign_b46 F (at_ : Int) (ds.map enc1, c) X (M_R_KraftSign_l46 F (at_ : Int) (ds.map enc1, c) X k) ((List.range s).any (fun s => part (ds.getD s []) X)) (s : Int) = _
    unfold M_R_KraftSign_b46 M_R_KraftSign_j53 M_R_KraftSign_j56 M_R_KraftSign_j55
    by_cases hlt : s < ds.length
    · have hrec := rsign_l (F := F) (c := c) hF hB hm hX ha k (s + 1) (by omega) (by omega)
      obtain ⟨b1, b2⟩ := hB.at s
      have htk : (List.range ds.length).take (s + 1) = (List.range ds.length).take s ++ [s] := by rw [take_snoc (by simp; omega), List.getElem_range]
      rw [htk, List.find?_append, hno, Option.none_or, any_succ] at hrec
      rw [if_pos (by simp; omega)]
      simp only
      rw [idx_nat, enc_get hlt]
      simp only [Option.bind_some]
      rw [bitList_pk hF b1 b2]
      simp only [Option.bind_some]
      rw [iadd1_n (by omega)]
      have tail : hit (ds.getD s []) X = false → (if false = true then some ((s : Int), iadd .i64 (at_ : Int) ((ds.getD s []).length : Int), (0 : Int)) else if ((List.range s).any fun s => part (ds.getD s []) X) = true then M_R_KraftSign_l46 F (at_ : Int) (ds.map enc1, c) X k (true, ((s + 1 : Nat) : Int)) else if decide ((X.length : Int) < ((ds.getD s []).length : Int)) = true then (M_R_Starts F (ds.getD s []) X).bind fun x372 => M_R_KraftSign_l46 F (at_ : Int) (ds.map enc1, c) X k (x372, ((s + 1 : Nat) : Int)) else M_R_KraftSign_l46 F (at_ : Int) (ds.map enc1, c) X k (false, ((s + 1 : Nat) : Int))) = some (fndM ds X at_) := by
        intro e1
        have hrec := hrec (by simp only [List.find?_cons, e1, List.find?_nil])
        rw [if_neg (by simp)]
        by_cases hsh : ((List.range s).any fun s => part (ds.getD s []) X) = true
        · rw [if_pos hsh]
          rw [hsh, Bool.true_or] at hrec
          exact hrec
        · rw [if_neg hsh]
          rw [Bool.not_eq_true] at hsh
          rw [hsh, Bool.false_or] at hrec
          by_cases hlen : X.length < (ds.getD s []).length
          · rw [if_pos (by simpa using hlen), starts_eq (by omega) (by omega)]
            simp only [Option.bind_some]
            have e2 : part (ds.getD s []) X = strt (ds.getD s []) X := by unfold part; rw [decide_eq_true hlen, Bool.true_and, cmp_part hlen]
            rw [e2] at hrec
            exact hrec
          · have e2 : part (ds.getD s []) X = false := by unfold part; rw [decide_eq_false hlen, Bool.false_and]
            rw [if_neg (by simpa using hlen)]
            rw [e2] at hrec
            exact hrec
      by_cases h0 : 0 < (ds.getD s []).length
      · rw [if_pos (by simpa using h0), starts_eq (by omega) (by omega)]
        simp only [Option.bind_some]
        by_cases hst : strt X (ds.getD s []) = true
        · have hlen : (ds.getD s []).length ≤ X.length := by
            unfold strt at hst
            simp only [Bool.and_eq_true, decide_eq_true_eq] at hst
            exact hst.1
          have e1 : hit (ds.getD s []) X = true := by unfold hit; rw [decide_eq_true h0, decide_eq_true hlen, cmp_hit hlen, hst]; rfl
          rw [if_pos hst, iadd_n (by omega)]
          unfold fndM
          have hfd : (List.range ds.length).find? (fun s => hit (ds.getD s []) X) = some s := by
            have : List.range ds.length = (List.range ds.length).take (s + 1) ++ (List.range ds.length).drop (s + 1) := (List.take_append_drop _ _).symm
            rw [this, htk, List.find?_append, List.find?_append, hno, Option.none_or, List.find?_cons, e1]; rfl
          rw [hfd]
        · have e1 : hit (ds.getD s []) X = false := by
            unfold hit
            by_cases hlen : (ds.getD s []).length ≤ X.length
            · rw [Bool.not_eq_true] at hst
              rw [cmp_hit hlen, hst, Bool.and_false, Bool.and_false]
            · rw [decide_eq_false hlen, Bool.false_and, Bool.and_false]
          rw [Bool.not_eq_true] at hst
          rw [hst]
          exact tail e1
      · have e1 : hit (ds.getD s []) X = false := by unfold hit; rw [decide_eq_false h0, Bool.false_and]
        rw [if_neg (by simpa using h0)]
        exact tail e1
    · rw [if_neg (by simp; omega)]
      have : s = ds.length := by omega
      subst this
      rw [List.take_of_length_le (by simp)] at hno
      unfold M_R_KraftSign_j29 fndM
      rw [hno]
      simp only
      split <;> rfl
theorem rsign_eq {F : Nat} {l : List Int} {m a : Int} {b : List Int} (hF : 20000 ≤ F) (hb : U8s b) : M_R_KraftSign F l m b a = some (signM l m b a) := by
  unfold M_R_KraftSign signM
  rw [rcodes_eq hF]
  simp only [Option.bind_some]
  unfold M_R_KraftSign_j1
  by_cases h1 : (codesM l).2 = 0
  · obtain ⟨hl, _, e⟩ := codesM_ok h1
    rw [if_pos (by simpa using h1), readErr_eq hF hb, if_neg (show ¬ (codesM l).2 ≠ 0 by simp [h1])]
    simp only [Option.bind_some]
    by_cases h2 : raOf m b a = 0
    · obtain ⟨n, i, rfl, rfl, hin, hn, ob, hpk⟩ := ra_ok hb h2
      have hl1 := hl.1
      have hs := sub_n (l := bl b n) (i := i) (j := (bl b n).length) (by rw [bl_len]; exact hin) (by omega)
      rw [List.take_length] at hs
      rw [if_neg (by simp [h2]), if_neg (show ¬ raOf (n : Int) b (i : Int) ≠ 0 by simp [h2]), e, bitList_eq hF hb (by rw [ob.len]; omega) (by omega)]
      simp only [Option.bind_some]
      rw [hs]
      simp only [Option.bind_some, Int.toNat_natCast]
      have hf := rsign_l (F := F) (at_ := i) (ds := dsl l) (X := (bl b n).drop i) (c := 0) hF (dsl_BL hl) (by rw [dsl_len]; omega) (by rw [List.length_drop, bl_len]; omega) (by omega) F 0 (by rw [dsl_len]; omega) (by omega) (by simp)
      rw [cds_enc hl]
      exact hf
    · rw [if_pos (by simpa using h2), if_pos h2]
  · rw [if_neg (by simpa using h1), if_pos (by simpa using h1), if_pos h1]
theorem cd_bit (l : List Int) (s : Nat) : Bit (cd l s) := nb_bit _ _
def kflat (l : List Int) (P : List Nat) : List Int := (P.map (cd l)).flatten
theorem kflat_bit (l : List Int) (P : List Nat) : Bit (kflat l P) := fun x hx => by
  obtain ⟨y, hy, hx⟩ := List.mem_flatten.1 hx
  obtain ⟨s, _, rfl⟩ := List.mem_map.1 hy
  exact cd_bit l s x hx
theorem kflat_snoc (l : List Int) (P : List Nat) (s : Nat) : kflat l (P ++ [s]) = kflat l P ++ cd l s := by simp [kflat]
def ksgs (P : List Nat) : List Int := P.map fun (s : Nat) => (s : Int)
def hcs (many l : List Int) (n : Nat) : Nat := nsum (List.range n) (fun s => hw many s * (gL l s).toNat)
def hbad (many l : List Int) (t : Nat) : Bool := decide (0 < gL many t) && decide (gL l t = 0)
def costM (many l : List Int) : Int × Int :=
  if kchk l ≠ 0 then (0, kchk l) else if many.length ≠ l.length then (0, 1) else if hchk many ≠ 0 then (0, hchk many) else if (List.range many.length).any (hbad many l) then (0, 4) else ((hcs many l many.length : Int), 0)
theorem hcs_succ (many l : List Int) (n : Nat) : hcs many l (n + 1) = hcs many l n + hw many n * (gL l n).toNat := by
  unfold hcs
  rw [List.range_succ, nsum_app, nsum_cons, nsum_nil]; rfl
theorem hcs_le {many l : List Int} (hm : HM many) (hl : KL l) (he : many.length = l.length) : ∀ n, n ≤ many.length → hcs many l n ≤ n * 25165824
  | 0, _ => by simp [hcs, nsum]
  | n + 1, h => by
    rw [hcs_succ]
    have h1 := hcs_le hm hl he n (by omega)
    have h2 := hm.at (show n < many.length by omega)
    have h3 := hl.at (show n < l.length by omega)
    have h4 : hw many n * (gL l n).toNat ≤ 1048576 * 24 := Nat.mul_le_mul (by unfold hw; omega) (by omega)
    omega
theorem cost_l {F : Nat} {many l : List Int} (hm : HM many) (hl : KL l) (he : many.length = l.length) : ∀ (k i : Nat), many.length < k + i → i ≤ many.length →
    M_huff_Cost_l25 F many l k ((hcs many l i : Int), (i : Int)) = some (if ((List.range many.length).drop i).any (hbad many l) then (0, 4) else ((hcs many l many.length : Int), 0))
  | 0, _, _, _ => by omega
  | k + 1, i, h, hi => by
    show M_huff_Cost_b25 F many l (M_huff_Cost_l25 F many l k) (hcs many l i : Int) (i : Int) = _
    unfold M_huff_Cost_b25 M_huff_Cost_j29
    have hm1 := hm.1
    by_cases hlt : i < many.length
    · have hrec := cost_l (F := F) hm hl he k (i + 1) (by omega) (by omega)
      have h2 := hm.at hlt
      have h3 := hl.at (show i < l.length by omega)
      have h5 := hcs_le hm hl he (i + 1) (by omega)
      have h6 : (i + 1) * 25165824 ≤ 64 * 25165824 := Nat.mul_le_mul_right _ (by omega)
      rw [if_pos (by simp; omega), idx_nat, gL_get hlt]
      simp only [Option.bind_some]
      rw [idx_nat, gL_get (show i < l.length by omega)]
      simp only [Option.bind_some]
      have hd : (List.range many.length).drop i = i :: (List.range many.length).drop (i + 1) := by
        rw [List.drop_eq_getElem_cons (by simpa using hlt)]; simp
      rw [hd, List.any_cons]
      have hmul : imul .i64 (gL many i) (gL l i) = ((hw many i * (gL l i).toNat : Nat) : Int) := by
        have e1 : gL many i = (hw many i : Int) := by unfold hw; omega
        have e2 : gL l i = ((gL l i).toNat : Int) := by omega
        have h7 : hw many i * (gL l i).toNat ≤ 1048576 * 24 := Nat.mul_le_mul (by unfold hw; omega) (by omega)
        rw [e1, e2, Int.toNat_natCast]
        have e3 : ((hw many i : Nat) : Int) * ((gL l i).toNat : Int) = ((hw many i * (gL l i).toNat : Nat) : Int) := by rw [Int.natCast_mul]
        rw [imul_i64 (by rw [e3]; omega) (by rw [e3]; omega), e3]
      rw [hcs_succ] at h5 hrec
      have hadd : iadd .i64 (hcs many l i : Int) (imul .i64 (gL many i) (gL l i)) = ((hcs many l i + hw many i * (gL l i).toNat : Nat) : Int) := by
        rw [hmul, iadd_n (by omega)]
      rw [hadd, iadd1_n (by omega), hrec]
      by_cases hb : hbad many l i = true
      · rw [hb, Bool.true_or, if_pos rfl]
        unfold hbad at hb
        simp only [Bool.and_eq_true, decide_eq_true_eq] at hb
        rw [if_pos (by simpa using hb.1), hb.2]
        simp
      · rw [Bool.not_eq_true] at hb
        rw [hb, Bool.false_or]
        unfold hbad at hb
        by_cases h0 : 0 < gL many i
        · have : gL l i ≠ 0 := by
            intro h; rw [h] at hb; simp at hb; omega
          rw [if_pos (by simpa using h0), if_neg (by simpa using this)]
        · rw [if_neg (by simpa using h0), if_neg (by simp)]
    · rw [if_neg (by simp; omega)]
      have : i = many.length := by omega
      subst this
      rw [List.drop_eq_nil_of_le (by simp)]
      rfl
theorem cost_eq {F : Nat} {many l : List Int} (hF : 20000 ≤ F) : M_huff_Cost F many l = some (costM many l) := by
  unfold M_huff_Cost costM M_huff_Cost_j1 M_huff_Cost_j2
  rw [kcheck_eq (by omega)]
  simp only [Option.bind_some]
  by_cases h1 : kchk l = 0
  · rw [if_neg (show ¬ kchk l ≠ 0 by simp [h1])]
    by_cases h2 : many.length = l.length
    · rw [if_neg (by simp [h1, h2]), if_pos (by simp [h1]), hcheck_eq (by omega), if_neg (show ¬ many.length ≠ l.length by simp [h2])]
      simp only [Option.bind_some]
      by_cases h3 : hchk many = 0
      · rw [if_neg (by simp [h3]), if_neg (by simp [h3])]
        have hm := hchk_ok.1 h3
        have := cost_l (F := F) hm (kchk_ok.1 h1) h2 F 0 (by have := hm.1; omega) (by omega)
        rw [List.drop_zero] at this
        exact this
      · rw [if_pos (by simpa using h3), if_pos h3]
    · rw [if_pos (by simp [h1]; omega), if_neg (by simp), if_pos (by simp), if_pos h2]
  · rw [if_neg (by simp [h1]), if_neg (by simpa using h1), if_pos (by simpa using h1), if_pos h1]
def hcnt (signs : List Int) : Nat → Nat := fun s => signs.count (s : Int)
def hsOut (signs : List Int) (many : Int) : Bool := signs.any fun s => decide (s < 0) || decide (many ≤ s)
def cntM (signs : List Int) (many : Int) : List Int × Int :=
  if many < 0 ∨ 64 < many then ([], 3) else if hsOut signs many then ([], 3) else if 1000 < signs.length then ([], 2) else (oL many.toNat (hcnt signs), 0)
theorem hcnt_snoc {signs : List Int} {i : Nat} (hi : i < signs.length) {s : Nat} (hs : signs[i] = (s : Int)) (t : Nat) : hcnt (signs.take (i + 1)) t = if t = s then hcnt (signs.take i) s + 1 else hcnt (signs.take i) t := by
  unfold hcnt
  rw [take_snoc hi, List.count_append, hs]
  by_cases e : t = s
  · subst e; simp
  · have h0 : List.count (t : Int) [(s : Int)] = 0 := List.count_eq_zero_of_not_mem (by rw [List.mem_singleton]; omega)
    rw [if_neg e, h0, Nat.add_zero]
theorem hcnt_le (signs : List Int) (s : Nat) : hcnt signs s ≤ signs.length := List.count_le_length
theorem counted_l {F m : Nat} {signs : List Int} (hs : signs.length ≤ 9223372036854775807) : ∀ (k i : Nat), signs.length < k + i → i ≤ signs.length →
    M_huff_counted_l3 F signs (m : Int) k (oL m (hcnt (signs.take i)), (i : Int)) = some (if hsOut (signs.drop i) (m : Int) then ([], 3) else if 1000 < signs.length then ([], 2) else (oL m (hcnt signs), 0))
  | 0, _, _, _ => by omega
  | k + 1, i, h, hi => by
    show M_huff_counted_b3 F signs (m : Int) (M_huff_counted_l3 F signs (m : Int) k) (oL m (hcnt (signs.take i))) (i : Int) = _
    unfold M_huff_counted_b3
    by_cases hlt : i < signs.length
    · rw [if_pos (by simp; omega), idx_nat, List.getElem?_eq_getElem hlt, List.drop_eq_getElem_cons hlt]
      simp only [Option.bind_some]
      unfold hsOut
      rw [List.any_cons]
      by_cases hc : (decide (signs[i] < 0) || decide ((m : Int) ≤ signs[i])) = true
      · rw [if_pos hc, hc]; rfl
      · rw [if_neg hc]
        rw [Bool.not_eq_true] at hc
        rw [hc, Bool.false_or]
        have hc' : ¬ signs[i] < 0 ∧ ¬ (m : Int) ≤ signs[i] := by simpa using hc
        obtain ⟨s, hs'⟩ := Int.eq_ofNat_of_zero_le (show 0 ≤ signs[i] by omega)
        have hsm : s < m := by omega
        rw [hs', idx_nat, oL_get hsm]
        simp only [Option.bind_some, lett]
        have hle := hcnt_le (signs.take i) s
        rw [List.length_take] at hle
        rw [Int.toNat_natCast, iadd_i64 (by omega) (by omega), iadd1_n (by omega), oL_set (o' := hcnt (signs.take (i + 1))) (fun t _ => hcnt_snoc hlt hs' t) hsm]
        exact counted_l hs k (i + 1) (by omega) (by omega)
    · rw [if_neg (by simp; omega), List.drop_eq_nil_of_le (by omega), List.take_of_length_le (by omega)]
      unfold M_huff_counted_j2
      rw [show hsOut [] (m : Int) = false from rfl, if_neg (show ¬ (false = true) by simp)]
      by_cases h1 : 1000 < signs.length
      · rw [if_pos (by simp; omega), if_pos h1]
      · rw [if_neg (by simp; omega), if_neg h1]
theorem counted_eq {F : Nat} {signs : List Int} {many : Int} (hF : 20000 + signs.length ≤ F) (hs : signs.length ≤ 9223372036854775807) : M_huff_counted F signs many = some (cntM signs many) := by
  unfold M_huff_counted cntM
  by_cases h1 : many < 0 ∨ 64 < many
  · rw [if_pos (by simpa using h1), if_pos h1]
  · rw [if_neg (by simpa using h1), if_neg h1]
    obtain ⟨m, rfl⟩ := Int.eq_ofNat_of_zero_le (show 0 ≤ many by omega)
    rw [hmk_rep (by omega)]
    simp only [Option.bind_some]
    have e0 : List.replicate m (0 : Int) = oL m (hcnt (signs.take 0)) := by
      apply List.ext_getElem?
      intro i
      by_cases h : i < m
      · rw [oL_get h]; simp [h, hcnt]
      · rw [List.getElem?_eq_none (by simp; omega), List.getElem?_eq_none (by rw [oL_len]; omega)]
    rw [e0]
    have := counted_l (F := F) (m := m) hs F 0 (by omega) (by omega)
    rw [List.drop_zero] at this
    exact this
theorem gL_oL {n s : Nat} {o : Nat → Nat} (h : s < n) : gL (oL n o) s = (o s : Int) := by
  unfold gL
  rw [List.getD_eq_getElem?_getD, oL_get h]; rfl
theorem nsum_rsum (n : Nat) (f : Nat → Nat) : rsum n f = nsum (List.range n) f := rfl
theorem hd_wsum {many : List Int} (hm : HM many) (h24 : ∀ s ∈ usd many, hdep many s ≤ 24) : wsum (oL many.length (hdep many)) = nsum (usd many) (fun s => 2 ^ (24 - hdep many s)) := by
  rw [wsum_rsum, oL_len]
  have e : rsum many.length (fun t => W (gL (oL many.length (hdep many)) t)) = rsum many.length (fun t => if decide (0 < gL many t) then 2 ^ (24 - hdep many t) else 0) := by
    refine rsum_congr fun t ht => ?_
    rw [gL_oL ht]
    by_cases h0 : 0 < gL many t
    · have hu := mem_usd.2 ⟨ht, h0⟩
      have h1 := hdep_pos hm hu
      rw [W_of (by omega), if_pos (by simpa using h0)]
    · have hu : t ∉ usd many := fun h => h0 (mem_usd.1 h).2
      rw [hdep_none hm hu, if_neg (by simpa using h0)]; rfl
  rw [e, rsum_filter]
  rfl
theorem hlenM_ok {many : List Int} (h : (hlenM many).2 = 0) : HM many ∧ hlenM many = (oL many.length (hdep many), 0) ∧ (∀ s, s < many.length → hdep many s ≤ 24) := by
  unfold hlenM at h ⊢
  by_cases h1 : hchk many = 0
  · have hm := hchk_ok.1 h1
    rw [if_neg (by simp [h1])] at h ⊢
    unfold hfin at h ⊢
    by_cases h2 : dOut (oL many.length (hdep many)) = true
    · rw [if_pos h2] at h; simp at h
    · rw [if_neg h2]
      refine ⟨hm, rfl, fun s hs => ?_⟩
      by_cases h3 : hdep many s ≤ 24
      · exact h3
      · exfalso
        exact h2 (List.any_eq_true.2 ⟨(hdep many s : Int), List.mem_of_getElem? (oL_get hs), by simp; omega⟩)
  · rw [if_pos h1] at h; exact absurd h h1
theorem hd_KL {many : List Int} (hm : HM many) (h24 : ∀ s, s < many.length → hdep many s ≤ 24) : KL (oL many.length (hdep many)) := by
  refine ⟨by rw [oL_len]; exact hm.1, fun n hn => ?_⟩
  obtain ⟨s, hs, rfl⟩ := List.mem_map.1 hn
  have := h24 s (List.mem_range.1 hs)
  omega
theorem hd_room {many : List Int} (hm : HM many) (h24 : ∀ s, s < many.length → hdep many s ≤ 24) : wsum (oL many.length (hdep many)) = if (usd many).length = 0 then 0 else if (usd many).length = 1 then 2 ^ 23 else 2 ^ 24 := by
  have h := fun s (hs : s ∈ usd many) => h24 s (mem_usd.1 hs).1
  rw [hd_wsum hm h, hdep_room hm h]
theorem hd_wle {many : List Int} (hm : HM many) (h24 : ∀ s, s < many.length → hdep many s ≤ 24) : wsum (oL many.length (hdep many)) ≤ 16777216 := by
  rw [hd_room hm h24]
  split
  · omega
  · split <;> decide
theorem hd_codes {many : List Int} (hm : HM many) (h24 : ∀ s, s < many.length → hdep many s ≤ 24) : codesM (oL many.length (hdep many)) = (cds (oL many.length (hdep many)), 0) := by
  unfold codesM
  have h1 := kchk_ok.2 (hd_KL hm h24)
  have h2 := hd_wle hm h24
  rw [if_neg (by simp [h1]), if_neg (by omega)]
/-- Of the lengths that were given the cost is what the groups weigh. -/
theorem hd_cost {many : List Int} (hm : HM many) (h24 : ∀ s, s < many.length → hdep many s ≤ 24) : costM many (oL many.length (hdep many)) = ((hcst many : Int), 0) := by
  unfold costM
  rw [if_neg (by simp [kchk_ok.2 (hd_KL hm h24)]), if_neg (by simp [oL_len]), if_neg (by simp [hchk_ok.2 hm])]
  have hb : (List.range many.length).any (hbad many (oL many.length (hdep many))) = false := by
    rw [List.any_eq_false]
    intro t ht
    have ht' := List.mem_range.1 ht
    unfold hbad
    rw [gL_oL ht']
    by_cases h0 : 0 < gL many t
    · have := hdep_pos hm (mem_usd.2 ⟨ht', h0⟩)
      simp; omega
    · simp; omega
  rw [hb, if_neg (by simp)]
  congr 2
  unfold hcs hcst
  have e : nsum (List.range many.length) (fun s => hw many s * (gL (oL many.length (hdep many)) s).toNat) = nsum (List.range many.length) (fun t => if decide (0 < gL many t) then hw many t * hdep many t else 0) := by
    refine nsum_congr fun t ht => ?_
    have ht' := List.mem_range.1 ht
    rw [gL_oL ht', Int.toNat_natCast]
    by_cases h0 : 0 < gL many t
    · rw [if_pos (by simpa using h0)]
    · rw [if_neg (by simpa using h0)]
      unfold hw
      rw [show (gL many t).toNat = 0 by omega, Nat.zero_mul]
  rw [e, ← nsum_rsum, rsum_filter]
  rfl
def hsN (signs : List Int) : List Nat := signs.map Int.toNat
def packM (signs : List Int) (many : Int) : List Int × Int × List Int × Int :=
  if (cntM signs many).2 ≠ 0 then ([], 0, [], (cntM signs many).2)
  else if (hlenM (cntM signs many).1).2 ≠ 0 then ([], 0, [], (hlenM (cntM signs many).1).2)
  else if 8192 < (kflat (hlenM (cntM signs many).1).1 (hsN signs)).length then ([], 0, [], 8)
  else ((hlenM (cntM signs many).1).1, ((kflat (hlenM (cntM signs many).1).1 (hsN signs)).length : Int), pk (kflat (hlenM (cntM signs many).1).1 (hsN signs)), 0)
/-- Signs that may be packed. -/
structure HP (signs : List Int) (m : Nat) : Prop where
  max : m ≤ 64
  len : signs.length ≤ 1000
  sgn : ∀ s ∈ signs, 0 ≤ s ∧ s < (m : Int)
theorem cntM_ok {signs : List Int} {many : Int} (h : (cntM signs many).2 = 0) : ∃ m : Nat, many = (m : Int) ∧ HP signs m ∧ cntM signs many = (oL m (hcnt signs), 0) := by
  unfold cntM at h ⊢
  by_cases h1 : many < 0 ∨ 64 < many
  · rw [if_pos h1] at h; simp at h
  · rw [if_neg h1] at h ⊢
    obtain ⟨m, rfl⟩ := Int.eq_ofNat_of_zero_le (show 0 ≤ many by omega)
    by_cases h2 : hsOut signs (m : Int) = true
    · rw [if_pos h2] at h; simp at h
    · rw [if_neg h2] at h ⊢
      by_cases h3 : 1000 < signs.length
      · rw [if_pos h3] at h; simp at h
      · rw [if_neg h3]
        refine ⟨m, rfl, ⟨by omega, by omega, fun s hs => ?_⟩, rfl⟩
        by_cases hx : s < 0 ∨ (m : Int) ≤ s
        · exact absurd (List.any_eq_true.2 ⟨s, hs, by simpa using hx⟩) h2
        · omega
theorem HP.nat {signs : List Int} {m : Nat} (h : HP signs m) : signs = ksgs (hsN signs) := by
  unfold ksgs hsN
  rw [List.map_map]
  conv => lhs; rw [← List.map_id signs]
  refine List.map_congr_left fun s hs => ?_
  have := (h.sgn s hs).1
  show s = ((s.toNat : Nat) : Int)
  omega
theorem HP.used {signs : List Int} {m : Nat} (h : HP signs m) {s : Nat} (hs : s ∈ hsN signs) : s < m ∧ s ∈ usd (oL m (hcnt signs)) := by
  obtain ⟨x, hx, rfl⟩ := List.mem_map.1 hs
  have h1 := h.sgn x hx
  have hlt : x.toNat < m := by omega
  refine ⟨hlt, mem_usd.2 ⟨by rw [oL_len]; exact hlt, ?_⟩⟩
  rw [gL_oL hlt]
  have : 0 < hcnt signs x.toNat := by
    unfold hcnt
    refine List.count_pos_iff.2 ?_
    rw [Int.toNat_of_nonneg h1.1]
    exact hx
  omega
theorem pack_l {F : Nat} {signs l : List Int} {e c : Int} (hF : 20000 ≤ F) (hl : KL l) (hlen : signs.length ≤ 1000) (hn : signs = ksgs (hsN signs)) (hu : ∀ s ∈ hsN signs, s < l.length) : ∀ (k i : Nat), signs.length < k + i → i ≤ signs.length → (kflat l ((hsN signs).take i)).length ≤ 8192 →
    M_huff_Pack_l3 F signs (l, e) (cds l, c) k ((i : Int), ((kflat l ((hsN signs).take i)).length : Int), pk (kflat l ((hsN signs).take i))) = some (if 8192 < (kflat l (hsN signs)).length then ([], 0, [], 8) else (l, ((kflat l (hsN signs)).length : Int), pk (kflat l (hsN signs)), 0))
  | 0, _, _, _, _ => by omega
  | k + 1, i, h, hi, hX => by
    show M_huff_Pack_b3 F signs (l, e) (cds l, c) (M_huff_Pack_l3 F signs (l, e) (cds l, c) k) (i : Int) ((kflat l ((hsN signs).take i)).length : Int) (pk (kflat l ((hsN signs).take i))) = _
    unfold M_huff_Pack_b3
    have hsl : (hsN signs).length = signs.length := by simp [hsN]
    by_cases hlt : i < signs.length
    · have hlt' : i < (hsN signs).length := by omega
      have hg0 : (ksgs (hsN signs))[i]? = some (((hsN signs)[i] : Nat) : Int) := by simp [ksgs, hlt']
      rw [← hn] at hg0
      have hg : idx signs (i : Int) = some (((hsN signs)[i] : Nat) : Int) := by rw [idx_nat, hg0]
      have hsl2 := hu _ (List.getElem_mem hlt')
      rw [if_pos (by simp; omega), hg]
      simp only [Option.bind_some]
      have hc : (cds l)[(hsN signs)[i]]? = some (ent l (hsN signs)[i]) := by simp [cds, hsl2]
      rw [idx_nat, hc]
      simp only [Option.bind_some]
      have hst : kflat l ((hsN signs).take (i + 1)) = kflat l ((hsN signs).take i) ++ cd l (hsN signs)[i] := by rw [take_snoc hlt', kflat_snoc]
      have hgl := hl.at hsl2
      have hcl := cd_len l (hsN signs)[i]
      have e1 : (ent l (hsN signs)[i]).1 = ((cd l (hsN signs)[i]).length : Int) := by
        show gL l (hsN signs)[i] = _
        omega
      have e2 : (ent l (hsN signs)[i]).2 = pk (cd l (hsN signs)[i]) := rfl
      have hle : (kflat l ((hsN signs).take (i + 1))).length ≤ (kflat l (hsN signs)).length := by
        have : kflat l (hsN signs) = kflat l ((hsN signs).take (i + 1)) ++ kflat l ((hsN signs).drop (i + 1)) := by
          unfold kflat
          rw [← List.flatten_append, ← List.map_append, List.take_append_drop]
        rw [this, List.length_append]
        omega
      rw [e1, e2, iadd_n (by omega)]
      rw [hst, List.length_append] at hle
      by_cases hov : 8192 < (kflat l ((hsN signs).take i)).length + (cd l (hsN signs)[i]).length
      · rw [if_pos (by simp; omega), if_pos (by omega)]
      · rw [if_neg (by simp; omega), both_pk hF (kflat_bit _ _) (cd_bit _ _) hX (by omega)]
        simp only [Option.bind_some]
        rw [iadd1_n (by omega), ← hst]
        exact pack_l hF hl hlen hn hu k (i + 1) (by omega) (by omega) (by rw [hst, List.length_append]; omega)
    · rw [if_neg (by simp; omega)]
      unfold M_huff_Pack_j2
      have e : (hsN signs).take i = hsN signs := List.take_of_length_le (by omega)
      rw [e] at hX ⊢
      rw [if_neg (by omega)]
theorem pack_eq {F : Nat} {signs : List Int} {many : Int} (hF : 20000 + signs.length ≤ F) (hs : signs.length ≤ 9223372036854775807) : M_huff_Pack F signs many = some (packM signs many) := by
  unfold M_huff_Pack packM
  rw [counted_eq hF hs]
  simp only [Option.bind_some]
  by_cases h1 : (cntM signs many).2 = 0
  · obtain ⟨m, rfl, hp, hc⟩ := cntM_ok h1
    rw [if_neg (by simp [h1]), if_neg (by simp [h1]), lengths_eq (by omega)]
    simp only [Option.bind_some]
    by_cases h2 : (hlenM (cntM signs (m : Int)).1).2 = 0
    · obtain ⟨hm, hl, h24⟩ := hlenM_ok h2
      rw [if_neg (by simp [h2]), if_neg (by simp [h2]), codes_eq (by omega)]
      simp only [Option.bind_some]
      rw [hl]
      rw [hd_codes hm h24]
      have hkl := hd_KL hm h24
      have hn0 : (cntM signs (m : Int)).1.length = m := by rw [hc]; exact oL_len _ _
      have := pack_l (F := F) (signs := signs) (e := 0) (c := 0) (by omega) hkl hp.len hp.nat (fun s hs => by rw [oL_len, hn0]; exact (hp.used hs).1) F 0 (by have := hp.len; omega) (by omega) (by simp [kflat])
      have ek : kflat (oL (cntM signs (m : Int)).1.length (hdep (cntM signs (m : Int)).1)) ((hsN signs).take 0) = [] := by simp [kflat]
      rw [ek] at this
      exact this
    · rw [if_pos (by simpa using h2), if_pos h2]
  · rw [if_pos (by simpa using h1), if_pos h1]
def upk (ds : List (List Int)) (x : List Int) : Nat → Nat → List Int × Int
  | 0, a => if a < x.length then ([], 1) else ([], 0)
  | k + 1, a => if (fndM ds (x.drop a) a).2.2 ≠ 0 then ([], (fndM ds (x.drop a) a).2.2)
    else if (upk ds x k (fndM ds (x.drop a) a).2.1.toNat).2 ≠ 0 then ([], (upk ds x k (fndM ds (x.drop a) a).2.1.toNat).2)
    else ((fndM ds (x.drop a) a).1 :: (upk ds x k (fndM ds (x.drop a) a).2.1.toNat).1, 0)
def unpackM (l : List Int) (m : Int) (b : List Int) (n : Int) : List Int × Int :=
  if (codesM l).2 ≠ 0 then ([], (codesM l).2) else if chkOf m b ≠ 0 then ([], chkOf m b) else if n < 0 ∨ 1000 < n then ([], 3) else upk (dsl l) (bl b m.toNat) n.toNat 0
theorem fnd_at {ds : List (List Int)} {X : List Int} {a : Nat} (h : (fndM ds X a).2.2 = 0) : ∃ a' : Nat, (fndM ds X a).2.1 = (a' : Int) ∧ a' ≤ a + X.length := by
  unfold fndM at h ⊢
  cases hf : (List.range ds.length).find? (fun s => hit (ds.getD s []) X) with
  | none =>
    rw [hf] at h
    simp only at h
    split at h <;> simp at h
  | some s =>
    have hh := List.find?_some hf
    unfold hit at hh
    simp only [Bool.and_eq_true, decide_eq_true_eq] at hh
    exact ⟨_, rfl, by omega⟩
theorem unp_l {F n : Nat} {ds : List (List Int)} {x : List Int} {c : Int} (hF : 20000 ≤ F) (hB : BL ds) (hm : ds.length ≤ 1000) (hx : Bit x) (hxm : x.length ≤ 8192) (hn : n ≤ 1000) : ∀ (k a : Nat) (out : List Int), n + 1 < k + out.length → out.length ≤ n → a ≤ x.length →
    M_huff_Unpack_l7 F (x.length : Int) (pk x) (n : Int) (ds.map enc1, c) k (0, out, (a : Int)) = some (if (upk ds x (n - out.length) a).2 ≠ 0 then ([], (upk ds x (n - out.length) a).2) else (out ++ (upk ds x (n - out.length) a).1, 0))
  | 0, _, _, h, _, _ => absurd h (by omega)
  | k + 1, a, out, h, ho, ha => by
    show M_huff_Unpack_b7 F (x.length : Int) (pk x) (n : Int) (ds.map enc1, c) (M_huff_Unpack_l7 F (x.length : Int) (pk x) (n : Int) (ds.map enc1, c) k) 0 out (a : Int) = _
    unfold M_huff_Unpack_b7
    by_cases hlt : out.length < n
    · rw [if_pos (by simp; omega), found_eq hF hB hm hx hxm ha]
      simp only [Option.bind_some]
      rw [app_eq (by simp; omega)]
      simp only [Option.bind_some]
      have hs : n - out.length = (n - (out.length + 1)) + 1 := by omega
      rw [hs]
      unfold upk
      by_cases he : (fndM ds (x.drop a) a).2.2 = 0
      · obtain ⟨a', e1, e2⟩ := fnd_at he
        rw [List.length_drop] at e2
        have hrec := unp_l (c := c) hF hB hm hx hxm hn k a' (out ++ [(fndM ds (x.drop a) a).1]) (by simp; omega) (by simp; omega) (by omega)
        rw [he, e1, hrec, List.length_append, List.length_singleton, if_neg (show ¬ ((0 : Int) ≠ 0) by simp), Int.toNat_natCast]
        by_cases h2 : (upk ds x (n - (out.length + 1)) a').2 = 0
        · simp only [h2, ne_eq, not_true_eq_false, if_false]
          simp
        · simp only [h2, ne_eq, not_false_eq_true, if_true]
      · obtain ⟨k', rfl⟩ : ∃ k', k = k' + 1 := ⟨k - 1, by omega⟩
        show M_huff_Unpack_b7 F (x.length : Int) (pk x) (n : Int) (ds.map enc1, c) (M_huff_Unpack_l7 F (x.length : Int) (pk x) (n : Int) (ds.map enc1, c) k') (fndM ds (x.drop a) a).2.2 (out ++ [(fndM ds (x.drop a) a).1]) (fndM ds (x.drop a) a).2.1 = _
        unfold M_huff_Unpack_b7 M_huff_Unpack_j5 M_huff_Unpack_j6
        rw [if_neg (by simp [he]), if_neg (by simp [he]), if_pos (by simpa using he), if_pos he, if_pos he]
    · rw [if_neg (by simp; omega)]
      have hs : n - out.length = 0 := by omega
      rw [hs]
      unfold upk M_huff_Unpack_j5 M_huff_Unpack_j6
      by_cases h1 : a < x.length
      · rw [if_pos (by simp; omega), if_pos h1, if_pos (by simp), if_pos (by simp)]
      · rw [if_neg (by simp; omega), if_neg h1, if_neg (by simp), if_neg (by simp)]
        simp
theorem unpack_eq {F : Nat} {l : List Int} {m n : Int} {b : List Int} (hF : 20000 ≤ F) (hb : U8s b) (hm : I64 m) (lb : b.length ≤ 9223372036854775807) : M_huff_Unpack F l m b n = some (unpackM l m b n) := by
  unfold M_huff_Unpack unpackM M_huff_Unpack_j1 M_huff_Unpack_j8 M_huff_Unpack_j3
  rw [codes_eq hF]
  simp only [Option.bind_some]
  have bad : ∀ (e : Int), e ≠ 0 → M_huff_Unpack_l7 F m b n (codesM l) F (e, [], 0) = some ([], e) := fun e he => by
    obtain ⟨k, rfl⟩ : ∃ k, F = k + 1 := ⟨F - 1, by omega⟩
    show M_huff_Unpack_b7 (k + 1) m b n (codesM l) (M_huff_Unpack_l7 (k + 1) m b n (codesM l) k) e [] 0 = _
    unfold M_huff_Unpack_b7 M_huff_Unpack_j5 M_huff_Unpack_j6
    rw [if_neg (by simp [he]), if_neg (by simp [he]), if_pos (by simpa using he)]
  by_cases h1 : (codesM l).2 = 0
  · obtain ⟨hl, hw, hc⟩ := codesM_ok h1
    rw [if_pos (by simp [h1]), if_neg (show ¬ (codesM l).2 ≠ 0 by simp [h1]), check_eq hb hm.1 hm.2 lb]
    simp only [Option.bind_some]
    by_cases h2 : chkOf m b = 0
    · obtain ⟨x, rfl, ob⟩ := chkOf_ok h2
      rw [if_pos (by simp [h2]), if_neg (show ¬ chkOf (x : Int) b ≠ 0 by simp [h2])]
      by_cases h3 : n < 0 ∨ 1000 < n
      · rw [if_pos (by simpa using h3), if_pos h3, bad 3 (by simp)]
      · rw [if_neg (by simpa using h3), if_neg h3]
        obtain ⟨n', rfl⟩ := Int.eq_ofNat_of_zero_le (show 0 ≤ n by omega)
        have hu := unp_l (F := F) (n := n') (ds := dsl l) (x := bl b x) (c := 0) hF (dsl_BL hl) (by rw [dsl_len]; have := hl.1; omega) (bl_bit _ _) (by rw [bl_len]; exact ob.max) (by omega) F 0 [] (by simp; omega) (Nat.zero_le _) (Nat.zero_le _)
        rw [bl_len, pk_bl hb ob, ← cds_enc hl, ← hc] at hu
        rw [h2]
        have hu' : M_huff_Unpack_l7 F (x : Int) b (n' : Int) (codesM l) F (0, [], 0) = _ := hu
        rw [hu', Int.toNat_natCast, Int.toNat_natCast]
        simp only [List.length_nil, Nat.sub_zero, List.nil_append]
        by_cases h4 : (upk (dsl l) (bl b x) n' 0).2 = 0
        · rw [if_neg (by simp [h4])]
          congr 1
          rw [← h4]
        · rw [if_pos h4]
          have : (upk (dsl l) (bl b x) n' 0).1 = [] := by
            cases n' with
            | zero =>
              unfold upk
              split <;> rfl
            | succ n' =>
              unfold upk at h4 ⊢
              split
              · rfl
              · rename_i h5
                rw [if_neg h5] at h4
                split
                · rfl
                · rename_i h6
                  rw [if_neg h6] at h4
                  simp at h4
          congr 1
          rw [← this]
    · rw [if_neg (by simp [h2]), if_pos h2, if_neg (by simp), bad _ h2]
  · rw [if_neg (by simp [h1]), if_pos h1, if_neg (by simp [h1]), if_neg (by simp), bad _ h1]
theorem hsame_l {F : Nat} {xs ys : List Int} (he : xs.length = ys.length) (hm : xs.length ≤ 1000000) : ∀ (k i : Nat), xs.length < k + i → i ≤ xs.length → M_R_SameInts_l3 F xs ys k (i : Int) = some (decide (xs.drop i = ys.drop i))
  | 0, _, _, _ => by omega
  | k + 1, i, h, hi => by
    show M_R_SameInts_b3 F xs ys (M_R_SameInts_l3 F xs ys k) (i : Int) = _
    unfold M_R_SameInts_b3
    by_cases hlt : i < xs.length
    · have hlt' : i < ys.length := by omega
      rw [if_pos (by simp; omega), idx_nat, List.getElem?_eq_getElem hlt, idx_nat, List.getElem?_eq_getElem hlt']
      simp only [Option.bind_some]
      rw [List.drop_eq_getElem_cons hlt, List.drop_eq_getElem_cons hlt']
      by_cases hc : xs[i] = ys[i]
      · rw [if_neg (by simp [hc]), iadd1_n (by omega), hsame_l he hm k (i + 1) (by omega) (by omega)]
        congr 1
        rw [decide_eq_decide, List.cons.injEq]
        exact ⟨fun h => ⟨hc, h⟩, fun h => h.2⟩
      · rw [if_pos (by simpa using hc), decide_eq_false (fun e => hc (List.cons.inj e).1)]
    · rw [if_neg (by simp; omega), List.drop_eq_nil_of_le (by omega), List.drop_eq_nil_of_le (by omega)]
      rfl
theorem hsame_ints {F : Nat} {xs ys : List Int} (hF : xs.length < F) (hm : xs.length ≤ 1000000) : M_R_SameInts F xs ys = some (decide (xs = ys)) := by
  unfold M_R_SameInts
  by_cases h : xs.length = ys.length
  · rw [if_neg (by simp [h])]
    have := hsame_l (F := F) h hm F 0 (by omega) (Nat.zero_le _)
    rw [List.drop_zero, List.drop_zero] at this
    exact this
  · rw [if_pos (by simp; omega), decide_eq_false (fun e => h (by rw [e]))]
theorem hbegun_eq {F : Nat} (hF : 20003 ≤ F) : M_L_huffBegun F = some true := by
  have c1 : hlenM [5, 0, 1, 2, 1] = ([1, 0, 3, 2, 3], 0) := by decide
  have c2 : costM [5, 0, 1, 2, 1] [1, 0, 3, 2, 3] = (15, 0) := by decide
  have c3 : packM [0, 2, 0] 3 = ([1, 0, 1], 3, [64], 0) := by decide
  have c4 : unpackM [1, 0, 1] 3 [64] 3 = ([0, 2, 0], 0) := by decide
  have c5 : unpackM [1, 0, 1] 3 [64] 2 = ([], 1) := by decide
  have c6 : hlenM [0, 7] = ([0, 1], 0) := by decide
  unfold M_L_huffBegun
  rw [lengths_eq (by omega), c1]
  simp only [Option.bind_some]
  rw [cost_eq (by omega), c2]
  simp only [Option.bind_some]
  rw [pack_eq (by simp; omega) (by decide), c3]
  simp only [Option.bind_some]
  rw [unpack_eq (by omega) (by unfold U8s; decide) (by unfold I64; decide) (by decide), c4]
  simp only [Option.bind_some]
  rw [unpack_eq (by omega) (by unfold U8s; decide) (by unfold I64; decide) (by decide), c5]
  simp only [Option.bind_some]
  rw [lengths_eq (by omega), c6]
  simp only [Option.bind_some]
  rw [hsame_ints (by simp; omega) (by decide)]
  simp only [Option.bind_some]
  rw [if_pos (by decide), hsame_ints (by simp; omega) (by decide)]
  simp only [Option.bind_some]
  unfold M_L_huffBegun_j1
  rw [if_pos (by decide), hsame_ints (by simp; omega) (by decide)]
  simp only [Option.bind_some]
  unfold M_L_huffBegun_j2
  rw [if_pos (by decide), hsame_ints (by simp; omega) (by decide)]
  rfl
theorem hgL {l : List Int} {i : Nat} (h : i < l.length) : idx l (i : Int) = some (gL l i) := by rw [idx_nat, gL_get h]
theorem hoL {n i : Nat} {o : Nat → Nat} (h : i < n) : idx (oL n o) (i : Int) = some (o i : Int) := by rw [idx_nat, oL_get h]
theorem hlenM_bad {many : List Int} (h0 : (hlenM many).2 ≠ 0) : (hlenM many).1 = [] ∧ ((hlenM many).2 = 2 ∨ (hlenM many).2 = 3 ∨ (hlenM many).2 = 8) := by
  unfold hlenM at h0 ⊢
  split
  · rename_i h1
    refine ⟨rfl, ?_⟩
    show hchk many = 2 ∨ hchk many = 3 ∨ hchk many = 8
    unfold hchk at h1 ⊢
    split
    · simp
    · rename_i h2
      rw [if_neg h2] at h1
      split
      · simp
      · rename_i h3
        rw [if_neg h3] at h1
        simp at h1
  · rename_i h1
    rw [if_neg h1] at h0
    unfold hfin at h0 ⊢
    split
    · exact ⟨rfl, .inr (.inr rfl)⟩
    · rename_i h2
      rw [if_neg h2] at h0
      simp at h0
theorem nsum_filter (l : List Nat) (p : Nat → Bool) (f : Nat → Nat) : nsum (l.filter p) f = nsum l (fun t => if p t then f t else 0) := by
  induction l with
  | nil => rfl
  | cons a l ih =>
    rw [List.filter_cons, nsum_cons]
    by_cases h : p a = true
    · rw [if_pos h, if_pos h, nsum_cons, ih]
    · rw [if_neg h, if_neg h, ih, Nat.zero_add]
theorem hcnt_ksgs (P : List Nat) (s : Nat) : hcnt (ksgs P) s = P.count s := by
  unfold hcnt
  induction P with
  | nil => rfl
  | cons a P ih =>
    show List.count (s : Int) ((a : Int) :: ksgs P) = _
    rw [List.count_cons, List.count_cons, ih]
    congr 1
    by_cases e : a = s
    · subst e; simp
    · have : ¬ ((a : Int) = (s : Int)) := by omega
      simp [e, this]
theorem sum_one {m a : Nat} (ha : a < m) (f : Nat → Nat) : nsum (List.range m) (fun s => if s = a then f s else 0) = f a := by
  induction m with
  | zero => omega
  | succ m ih =>
    rw [List.range_succ, nsum_app, nsum_cons, nsum_nil]
    by_cases e : m = a
    · subst e
      rw [if_pos rfl, nsum_congr (g := fun _ => 0) (fun s hs => by have := List.mem_range.1 hs; rw [if_neg (by omega)]), nsum_const]
      simp
    · rw [if_neg e, ih (by omega)]; omega
theorem sum_count {m : Nat} (f : Nat → Nat) : ∀ P : List Nat, (∀ s ∈ P, s < m) → nsum (List.range m) (fun s => P.count s * f s) = nsum P f
  | [], _ => by simp [nsum_nil, nsum_const]
  | a :: P, h => by
    have ih := sum_count f P (fun s hs => h s (by simp [hs]))
    rw [nsum_cons, ← ih, ← sum_one (h a (by simp)) f, ← nsum_add]
    refine nsum_congr fun s _ => ?_
    rw [List.count_cons]
    by_cases e : s = a
    · subst e; simp [Nat.add_mul]; omega
    · have : ¬ (a = s) := fun h => e h.symm
      simp [e, this]
theorem kflat_len (l : List Int) (P : List Nat) : (kflat l P).length = nsum P (fun s => (gL l s).toNat) := by
  unfold kflat
  induction P with
  | nil => rfl
  | cons a P ih => rw [List.map_cons, List.flatten_cons, List.length_append, ih, nsum_cons, cd_len]
/-- As many bits as it costs. -/
theorem cost_bits {signs : List Int} {m : Nat} (hp : HP signs m) (h24 : ∀ s, s < m → hdep (oL m (hcnt signs)) s ≤ 24) : hcst (oL m (hcnt signs)) = (kflat (oL m (hdep (oL m (hcnt signs)))) (hsN signs)).length := by
  rw [kflat_len]
  have e1 : nsum (hsN signs) (fun s => (gL (oL m (hdep (oL m (hcnt signs)))) s).toNat) = nsum (hsN signs) (hdep (oL m (hcnt signs))) :=
    nsum_congr fun s hs => by rw [gL_oL (hp.used hs).1, Int.toNat_natCast]
  rw [e1, ← sum_count (m := m) _ _ (fun s hs => (hp.used hs).1)]
  unfold hcst usd
  rw [nsum_filter, oL_len]
  refine nsum_congr fun t ht => ?_
  have ht' := List.mem_range.1 ht
  have e2 : gL (oL m (hcnt signs)) t = ((hsN signs).count t : Int) := by
    rw [gL_oL ht', ← hcnt_ksgs, ← hp.nat]
  unfold hw
  rw [e2, Int.toNat_natCast]
  by_cases h0 : (hsN signs).count t = 0
  · rw [if_neg (by simp [h0]), h0, Nat.zero_mul]
  · rw [if_pos (decide_eq_true (by omega))]
theorem packM_bad {signs : List Int} {many : Int} (h : (packM signs many).2.2.2 ≠ 0) : (packM signs many).1 = [] ∧ (packM signs many).2.1 = 0 ∧ (packM signs many).2.2.1 = [] := by
  unfold packM at h ⊢
  split
  · exact ⟨rfl, rfl, rfl⟩
  · rename_i h1
    rw [if_neg h1] at h
    split
    · exact ⟨rfl, rfl, rfl⟩
    · rename_i h2
      rw [if_neg h2] at h
      split
      · exact ⟨rfl, rfl, rfl⟩
      · rename_i h3
        rw [if_neg h3] at h
        simp at h
theorem packM_ok {signs : List Int} {many : Int} (h : (packM signs many).2.2.2 = 0) : ∃ m : Nat, many = (m : Int) ∧ HP signs m ∧ (∀ s, s < m → hdep (oL m (hcnt signs)) s ≤ 24) ∧ (kflat (oL m (hdep (oL m (hcnt signs)))) (hsN signs)).length ≤ 8192 ∧
    packM signs many = (oL m (hdep (oL m (hcnt signs))), ((kflat (oL m (hdep (oL m (hcnt signs)))) (hsN signs)).length : Int), pk (kflat (oL m (hdep (oL m (hcnt signs)))) (hsN signs)), 0) := by
  unfold packM at h ⊢
  by_cases h1 : (cntM signs many).2 = 0
  · obtain ⟨m, rfl, hp, hc⟩ := cntM_ok h1
    rw [if_neg (by simp [h1])] at h ⊢
    by_cases h2 : (hlenM (cntM signs (m : Int)).1).2 = 0
    · rw [if_neg (by simp [h2])] at h ⊢
      obtain ⟨_, hl, h24⟩ := hlenM_ok h2
      rw [hl] at h ⊢
      rw [hc] at h h24 ⊢
      simp only [oL_len] at h h24 ⊢
      by_cases h3 : 8192 < (kflat (oL m (hdep (oL m (hcnt signs)))) (hsN signs)).length
      · rw [if_pos h3] at h; simp at h
      · rw [if_neg h3]
        exact ⟨m, rfl, hp, h24, by omega, rfl⟩
    · rw [if_pos h2] at h; exact absurd h h2
  · rw [if_pos h1] at h; exact absurd h h1
theorem oL_congr {n : Nat} {f g : Nat → Nat} (h : ∀ s, s < n → f s = g s) : oL n f = oL n g := by
  unfold oL
  exact List.map_congr_left fun s hs => by rw [h s (List.mem_range.1 hs)]
theorem rherr_l {F : Nat} {l : List Int} (hm : l.length ≤ 1000000) : ∀ (k i : Nat), l.length < k + i → i ≤ l.length → M_R_HuffErr_l3 F l k (i : Int) = some (if hOut (l.drop i) then 3 else 0)
  | 0, _, _, _ => by omega
  | k + 1, i, h, hi => by
    show M_R_HuffErr_b3 F l (M_R_HuffErr_l3 F l k) (i : Int) = _
    unfold M_R_HuffErr_b3
    by_cases hlt : i < l.length
    · rw [if_pos (by simp; omega), idx_nat, List.getElem?_eq_getElem hlt, List.drop_eq_getElem_cons hlt]
      simp only [Option.bind_some]
      unfold M_R_between
      simp only [Option.bind_some]
      unfold hOut
      rw [List.any_cons]
      by_cases hc : l[i] < 0 ∨ 1048576 < l[i]
      · rw [if_pos (by simp; omega), if_pos (by simp; omega)]
      · have : (decide (l[i] < 0) || decide (1048576 < l[i])) = false := by simp; omega
        rw [if_neg (by simp; omega), this, Bool.false_or, iadd1_n (by omega)]
        exact rherr_l hm k (i + 1) (by omega) (by omega)
    · rw [if_neg (by simp; omega), List.drop_eq_nil_of_le (by omega)]
      rfl
theorem rherr_eq {F : Nat} {l : List Int} (hF : 1000 ≤ F) : M_R_HuffErr F l = some (hchk l) := by
  unfold M_R_HuffErr hchk
  by_cases h : 64 < l.length
  · rw [if_pos (by simp; omega), if_pos h]
  · rw [if_neg (by simp; omega), if_neg h]
    have := rherr_l (F := F) (l := l) (by omega) F 0 (by omega) (by omega)
    rw [List.drop_zero] at this
    exact this
abbrev ghd (g : Grp) : Nat := g.1.headD 0
def fst2 : List Grp → Int × Int
  | [] => (-1, -1)
  | [g] => ((ghd g : Int), -1)
  | g :: g' :: _ => ((ghd g : Int), (ghd g' : Int))
theorem gl_eq {A B : List Grp} (hA : A.Pairwise (fun a b => glt a b = true)) (hB : B.Pairwise (fun a b => glt a b = true)) (h : A.Perm B) : A = B :=
  List.Perm.eq_of_pairwise (le := fun a b => glt a b = true) (fun a b _ _ h1 h2 => by
    rw [glt_iff] at h1 h2
    omega) hA hB h
theorem glt_le {x g : Grp} (h : ghd x < ghd g) : glt x g = decide (¬ g.2 < x.2) := by
  rw [Bool.eq_iff_iff, glt_iff, decide_eq_true_eq]
  show x.2 < g.2 ∨ (x.2 = g.2 ∧ ghd x < ghd g) ↔ _
  omega
/-- What is known of the document's state. -/
structure RI (many : List Int) (h : List Grp) (fo fw o : Nat → Nat) : Prop where
  hi : HI (hw many) h o
  sg : (hsg h).Perm (usd many)
  of_ : ∀ g ∈ h, ∀ s ∈ g.1, fo s = ghd g
  wt : ∀ g ∈ h, fw (ghd g) = g.2
theorem RI.lt {many : List Int} {h : List Grp} {fo fw o : Nat → Nat} (hr : RI many h fo fw o) {g : Grp} (hg : g ∈ h) {s : Nat} (hs : s ∈ g.1) : s < many.length ∧ 0 < gL many s :=
  mem_usd.1 (hr.sg.mem_iff.1 (mem_hsg.2 ⟨g, hg, hs⟩))
theorem hd_apart {w o : Nat → Nat} {h : List Grp} (hi : HI w h o) {g g' : Grp} (hg : g ∈ h) (hg' : g' ∈ h) {s : Nat} (hs : s ∈ g.1) (hs' : s ∈ g'.1) : g = g' := by
  have key : ∀ (h : List Grp), (hsg h).Nodup → g ∈ h → g' ∈ h → g = g' := by
    intro h
    induction h with
    | nil => intro _ h1; simp at h1
    | cons x t ih =>
      intro hnd h1 h2
      have hnd' : (x.1 ++ hsg t).Nodup := hnd
      obtain ⟨_, ht, hdis⟩ := List.nodup_append.1 hnd'
      rcases List.mem_cons.1 h1 with e1 | m1
      · rcases List.mem_cons.1 h2 with e2 | m2
        · rw [e1, e2]
        · rw [e1] at hs
          exact absurd rfl (hdis s hs s (mem_hsg.2 ⟨g', m2, hs'⟩))
      · rcases List.mem_cons.1 h2 with e2 | m2
        · rw [e2] at hs'
          exact absurd rfl (hdis s hs' s (mem_hsg.2 ⟨g, m1, hs⟩))
        · exact ih ht m1 m2
  exact key h hi.nd hg hg'
/-- The groups whose first signs are below i. -/
def hbl (h : List Grp) (i : Nat) : List Grp := h.filter fun g => decide (ghd g < i)
theorem hbl_same {h : List Grp} {i : Nat} (hn : ∀ g ∈ h, ghd g ≠ i) : hbl h (i + 1) = hbl h i := by
  unfold hbl
  refine List.filter_congr fun g hg => ?_
  have := hn g hg
  rw [decide_eq_decide]
  omega
theorem hbl_more {w o : Nat → Nat} {h : List Grp} (hi : HI w h o) {g : Grp} (hg : g ∈ h) : hbl h (ghd g + 1) = gins g (hbl h (ghd g)) := by
  have hsub : ∀ i, (hbl h i).Pairwise (fun a b => glt a b = true) := fun i => hi.ord.sublist List.filter_sublist
  have hap : ∀ x ∈ hbl h (ghd g), Apg g x := fun x hx => by
    have := (List.mem_filter.1 hx).2
    simp only [decide_eq_true_eq] at this
    show ghd g ≠ ghd x
    omega
  refine gl_eq (hsub _) (gins_sorted (hsub _) hap) ?_
  have hp := List.perm_cons_erase hg
  have hnd : h.Nodup := hi.ord.imp fun {a b} hab e => by
    subst e
    rw [glt_iff] at hab
    omega
  have hE : ∀ x ∈ h.erase g, ghd x ≠ ghd g := fun x hx e => by
    obtain ⟨h1, h2⟩ := (List.Nodup.mem_erase_iff hnd).1 hx
    have := hd_apart hi hg h2 (head_mem (hi.ne g hg)) (by
      have := head_mem (hi.ne x h2)
      rw [show x.1.headD 0 = g.1.headD 0 from e] at this
      exact this)
    exact h1 this.symm
  refine (hp.filter _).trans ?_
  rw [List.filter_cons, if_pos (by simp)]
  refine List.Perm.trans ?_ (gins_perm g _).symm
  refine List.Perm.cons g ?_
  have e1 : (h.erase g).filter (fun x => decide (ghd x < ghd g + 1)) = (h.erase g).filter (fun x => decide (ghd x < ghd g)) := by
    refine List.filter_congr fun x hx => ?_
    have := hE x hx
    rw [decide_eq_decide]
    omega
  rw [e1]
  have e2 := hp.filter (fun x => decide (ghd x < ghd g))
  rw [List.filter_cons, if_neg (by simp)] at e2
  exact e2.symm
theorem hbl_all {h : List Grp} {n : Nat} (hn : ∀ g ∈ h, ghd g < n) : hbl h n = h := List.filter_eq_self.2 fun g hg => by simpa using hn g hg
theorem scan_l {F : Nat} {many : List Int} {h : List Grp} {fo fw o : Nat → Nat} {rec531 : (List Int × List Int × List Int × Int) → Option (List Int × Int)} {x5889 : List Int} {x5890 : Int} (hm : HM many) (hr : RI many h fo fw o) : ∀ (k i : Nat), many.length < k + i → i ≤ many.length →
    M_R_HuffLengths_l625 F rec531 many (oL many.length fo) (oL many.length fw) x5889 x5890 k ((fst2 (hbl h i)).1, (fst2 (hbl h i)).2, (i : Int)) =
      M_R_HuffLengths_j560 F rec531 many (oL many.length fo) (oL many.length fw) x5889 x5890 (fst2 h).1 (fst2 h).2
  | 0, _, _, _ => by omega
  | k + 1, i, hk, hi => by
    show M_R_HuffLengths_b625 F rec531 many (oL many.length fo) (oL many.length fw) x5889 x5890 (M_R_HuffLengths_l625 F rec531 many (oL many.length fo) (oL many.length fw) x5889 x5890 k) (fst2 (hbl h i)).1 (fst2 (hbl h i)).2 (i : Int) = _
    unfold M_R_HuffLengths_b625 M_R_HuffLengths_j632 M_R_HuffLengths_j633 M_R_HuffLengths_j634 M_R_HuffLengths_j630
    have hm1 := hm.1
    by_cases hlt : i < many.length
    · have hrec := scan_l (F := F) (rec531 := rec531) (x5889 := x5889) (x5890 := x5890) hm hr k (i + 1) (by omega) (by omega)
      have hmi := hm.at hlt
      rw [if_pos (by simp; omega), hgL hlt]
      simp only [Option.bind_some]
      rw [iadd1_n (by omega)]
      by_cases hz : gL many i = 0
      · rw [if_pos (by simpa using hz), if_pos (by trivial)]
        rw [hbl_same (fun g hg e => by
          have := (hr.lt hg (head_mem (hr.hi.ne g hg))).2
          rw [show g.1.headD 0 = i from e] at this
          omega)] at hrec
        exact hrec
      · have hu : i ∈ usd many := mem_usd.2 ⟨hlt, by omega⟩
        obtain ⟨g, hg, hig⟩ := mem_hsg.1 (hr.sg.mem_iff.2 hu)
        have hfo := hr.of_ g hg i hig
        rw [if_neg (by simpa using hz), hoL hlt]
        simp only [Option.bind_some]
        by_cases hh : ghd g = i
        · rw [hfo, hh]
          have e1 : (((i : Nat) : Int) != (i : Int)) = false := by simp
          rw [e1, if_neg (by simp)]
          have hmore := hbl_more hr.hi hg
          rw [hh] at hmore
          rw [hmore] at hrec
          have hwg : fw i = g.2 := by rw [← hh]; exact hr.wt g hg
          have hbelow : ∀ x ∈ hbl h i, x ∈ h ∧ ghd x < i := fun x hx => by
            have := List.mem_filter.1 hx
            exact ⟨this.1, by simpa using this.2⟩
          match hL : hbl h i with
          | [] =>
            rw [hL] at hrec
            rw [show (fst2 ([] : List Grp)).1 = -1 from rfl, show (fst2 ([] : List Grp)).2 = -1 from rfl, if_pos (by simp), if_pos (by trivial)]
            have e2 : fst2 (gins g []) = ((i : Int), -1) := by show ((ghd g : Int), (-1 : Int)) = _; rw [hh]
            rw [e2] at hrec
            exact hrec
          | [x] =>
            rw [hL] at hrec hbelow
            obtain ⟨hx, hxi⟩ := hbelow x (by simp)
            have hxn : ghd x < many.length := (hr.lt hx (head_mem (hr.hi.ne x hx))).1
            have hwx := hr.wt x hx
            rw [show (fst2 [x]).1 = (ghd x : Int) from rfl, show (fst2 [x]).2 = -1 from rfl, if_neg (by simp), hoL hlt, hoL hxn]
            simp only [Option.bind_some]
            rw [hwg, hwx]
            have hgl := glt_le (x := x) (g := g) (by omega)
            by_cases hc : g.2 < x.2
            · rw [if_pos (by simp; omega)]
              have e2 : gins g [x] = [g, x] := by unfold gins; rw [hgl, if_neg (by simp; omega)]
              rw [e2] at hrec
              have e3 : fst2 [g, x] = ((i : Int), (ghd x : Int)) := by show ((ghd g : Int), (ghd x : Int)) = _; rw [hh]
              rw [e3] at hrec
              exact hrec
            · rw [if_neg (by simp; omega), if_pos (by simp), if_pos (by trivial)]
              have e2 : gins g [x] = [x, g] := by unfold gins; rw [hgl, if_pos (by simp; omega)]; rfl
              rw [e2] at hrec
              have e3 : fst2 [x, g] = ((ghd x : Int), (i : Int)) := by show ((ghd x : Int), (ghd g : Int)) = _; rw [hh]
              rw [e3] at hrec
              exact hrec
          | x :: y :: t =>
            rw [hL] at hrec hbelow
            obtain ⟨hx, hxi⟩ := hbelow x (by simp)
            obtain ⟨hy, hyi⟩ := hbelow y (by simp)
            have hxn : ghd x < many.length := (hr.lt hx (head_mem (hr.hi.ne x hx))).1
            have hyn : ghd y < many.length := (hr.lt hy (head_mem (hr.hi.ne y hy))).1
            have hwx := hr.wt x hx
            have hwy := hr.wt y hy
            rw [show (fst2 (x :: y :: t)).1 = (ghd x : Int) from rfl, show (fst2 (x :: y :: t)).2 = (ghd y : Int) from rfl, if_neg (by simp), hoL hlt, hoL hxn]
            simp only [Option.bind_some]
            rw [hwg, hwx]
            have hgx := glt_le (x := x) (g := g) (by omega)
            have hgy := glt_le (x := y) (g := g) (by omega)
            by_cases hc : g.2 < x.2
            · rw [if_pos (by simp; omega)]
              have e2 : gins g (x :: y :: t) = g :: x :: y :: t := by unfold gins; rw [hgx, if_neg (by simp; omega)]
              rw [e2] at hrec
              have e3 : fst2 (g :: x :: y :: t) = ((i : Int), (ghd x : Int)) := by show ((ghd g : Int), (ghd x : Int)) = _; rw [hh]
              rw [e3] at hrec
              exact hrec
            · rw [if_neg (by simp; omega), if_neg (by simp), hoL hyn]
              simp only [Option.bind_some]
              rw [hwy]
              have e2 : gins g (x :: y :: t) = x :: gins g (y :: t) := by
                conv => lhs; unfold gins
                rw [hgx, if_pos (by simp; omega)]
              by_cases hc2 : g.2 < y.2
              · rw [if_pos (by simp; omega)]
                have e4 : gins g (y :: t) = g :: y :: t := by unfold gins; rw [hgy, if_neg (by simp; omega)]
                rw [e2, e4] at hrec
                have e3 : fst2 (x :: g :: y :: t) = ((ghd x : Int), (i : Int)) := by show ((ghd x : Int), (ghd g : Int)) = _; rw [hh]
                rw [e3] at hrec
                exact hrec
              · rw [if_neg (by simp; omega)]
                have e4 : gins g (y :: t) = y :: gins g t := by
                  conv => lhs; unfold gins
                  rw [hgy, if_pos (by simp; omega)]
                rw [e2, e4] at hrec
                exact hrec
        · rw [hfo]
          have e1 : (((ghd g : Nat) : Int) != (i : Int)) = true := bne_iff_ne.2 (by omega)
          rw [e1, if_pos (by trivial)]
          rw [hbl_same (fun x hx e => by
            have := hd_apart hr.hi hg hx hig (by
              have := head_mem (hr.hi.ne x hx)
              rw [show x.1.headD 0 = i from e] at this
              exact this)
            subst this
            exact hh e)] at hrec
          exact hrec
    · rw [if_neg (by simp; omega), hbl_all (fun g hg => by
        have := (hr.lt hg (head_mem (hr.hi.ne g hg))).1
        show g.1.headD 0 < i
        omega)]
theorem rmerge_l {F n m M : Nat} {rec531 : (List Int × List Int × List Int × Int) → Option (List Int × Int)} {many : List Int} {x5888 : List Int} {x5890 : Int} {fo o : Nat → Nat} {AB : Nat → Bool} (hn : many.length = n) (hm : HM many) (ho : ∀ s, AB s = true → o s ≤ 1000)
    (hAB : ∀ s, s < n → (AB s = true ↔ 0 < gL many s ∧ (fo s = m ∨ fo s = M))) : ∀ (k i : Nat), n < k + i → i ≤ n →
    M_R_HuffLengths_l599 F rec531 many x5888 x5890 (m : Int) (M : Int) k (oL n (fun s => if decide (s < i) && AB s then m else fo s), oL n (fun s => if decide (s < i) && AB s then o s + 1 else o s), (i : Int)) =
      M_R_HuffLengths_j584 F rec531 x5888 x5890 (m : Int) (M : Int) (oL n (fun s => if AB s then m else fo s)) (oL n (fun s => if AB s then o s + 1 else o s))
  | 0, _, _, _ => by omega
  | k + 1, i, h, hi => by
    show M_R_HuffLengths_b599 F rec531 many x5888 x5890 (m : Int) (M : Int) (M_R_HuffLengths_l599 F rec531 many x5888 x5890 (m : Int) (M : Int) k) (oL n (fun s => if decide (s < i) && AB s then m else fo s)) (oL n (fun s => if decide (s < i) && AB s then o s + 1 else o s)) (i : Int) = _
    unfold M_R_HuffLengths_b599 M_R_HuffLengths_j606 M_R_HuffLengths_j605 M_R_HuffLengths_j603
    have hm1 := hm.1
    by_cases hlt : i < n
    · have hrec := rmerge_l (F := F) (rec531 := rec531) (x5888 := x5888) (x5890 := x5890) hn hm ho hAB k (i + 1) (by omega) (by omega)
      have hab := hAB i hlt
      rw [if_pos (by simp; omega), hgL (by omega)]
      simp only [Option.bind_some]
      rw [iadd1_n (by omega)]
      have hv : (if decide (i < i) && AB i then m else fo i) = fo i := by simp
      have hvo : (if decide (i < i) && AB i then o i + 1 else o i) = o i := by simp
      have skip : AB i = false → ∀ (f g : Nat → Nat), oL n (fun s => if decide (s < i) && AB s then f s else g s) = oL n (fun s => if decide (s < i + 1) && AB s then f s else g s) := fun hA f g => by
        unfold oL
        refine List.map_congr_left fun s _ => ?_
        congr 1
        by_cases e : s = i
        · subst e; simp [hA]
        · have : decide (s < i) = decide (s < i + 1) := by rw [decide_eq_decide]; omega
          simp only [this]
      have take : AB i = true → M_R_HuffLengths_l599 F rec531 many x5888 x5890 (m : Int) (M : Int) k ((oL n (fun s => if decide (s < i) && AB s then m else fo s)).set i (m : Int), (oL n (fun s => if decide (s < i) && AB s then o s + 1 else o s)).set i (iadd .i64 (o i : Int) 1), ((i + 1 : Nat) : Int)) =
          M_R_HuffLengths_j584 F rec531 x5888 x5890 (m : Int) (M : Int) (oL n (fun s => if AB s then m else fo s)) (oL n (fun s => if AB s then o s + 1 else o s)) := fun hA => by
        rw [← hrec]
        have hoi := ho i hA
        have e1 : (oL n (fun s => if decide (s < i) && AB s then m else fo s)).set i (m : Int) = oL n (fun s => if decide (s < i + 1) && AB s then m else fo s) := by
          apply List.ext_getElem?
          intro t
          rw [List.getElem?_set, oL_len]
          by_cases ht : t < n
          · rw [oL_get ht, oL_get ht]
            by_cases e : i = t
            · subst e
              rw [if_pos rfl, if_pos ht]; simp [hA]
            · rw [if_neg e]
              have : decide (t < i) = decide (t < i + 1) := by rw [decide_eq_decide]; omega
              rw [this]
          · rw [List.getElem?_eq_none (by rw [oL_len]; omega), List.getElem?_eq_none (by rw [oL_len]; omega)]
            by_cases e : i = t
            · omega
            · rw [if_neg e]
        have e2 : (oL n (fun s => if decide (s < i) && AB s then o s + 1 else o s)).set i (iadd .i64 (o i : Int) 1) = oL n (fun s => if decide (s < i + 1) && AB s then o s + 1 else o s) := by
          rw [iadd_i64 (by omega) (by omega)]
          have := oL_set (n := n) (s := i) (o := fun s => if decide (s < i) && AB s then o s + 1 else o s) (o' := fun s => if decide (s < i + 1) && AB s then o s + 1 else o s) (fun t _ => by
            by_cases e : t = i
            · subst e; simp [hA]
            · rw [if_neg e]
              have : decide (t < i) = decide (t < i + 1) := by rw [decide_eq_decide]; omega
              rw [this]) hlt
          simp only [hvo] at this
          exact this
        rw [e1, e2]
      by_cases hp : 0 < gL many i
      · rw [if_pos (by simpa using hp), hoL hlt, hv]
        simp only [Option.bind_some]
        by_cases h1 : fo i = m
        · have hA := hab.2 ⟨hp, .inl h1⟩
          rw [if_pos (by simp [h1]), if_pos (by trivial)]
          simp only [lett]
          rw [Int.toNat_natCast, hoL hlt, hvo]
          simp only [Option.bind_some]
          exact take hA
        · rw [if_neg (by simp; omega)]
          by_cases h2 : fo i = M
          · have hA := hab.2 ⟨hp, .inr h2⟩
            rw [if_pos (by simp [h2])]
            simp only [lett]
            rw [Int.toNat_natCast, hoL hlt, hvo]
            simp only [Option.bind_some]
            exact take hA
          · have hA : AB i = false := by
              rw [← Bool.not_eq_true]
              intro h
              rcases (hab.1 h).2 with h | h <;> contradiction
            rw [if_neg (by simp; omega), skip hA (fun _ => m) fo, skip hA (fun s => o s + 1) o]
            exact hrec
      · have hA : AB i = false := by
          rw [← Bool.not_eq_true]
          intro h
          exact hp (hab.1 h).1
        rw [if_neg (by simpa using hp), if_neg (by simp), skip hA (fun _ => m) fo, skip hA (fun s => o s + 1) o]
        exact hrec
    · rw [if_neg (by simp; omega)]
      have : i = n := by omega
      subst this
      have e1 : ∀ f g : Nat → Nat, oL i (fun s => if decide (s < i) && AB s then f s else g s) = oL i (fun s => if AB s then f s else g s) := fun f g => by
        unfold oL
        refine List.map_congr_left fun s hs => ?_
        have := List.mem_range.1 hs
        simp [this]
      rw [e1 (fun _ => m) fo, e1 (fun s => o s + 1) o]
theorem oL_setg {n s v : Nat} {o : Nat → Nat} : (oL n o).set s (v : Int) = oL n (fun t => if t = s then v else o t) := by
  apply List.ext_getElem?
  intro t
  rw [List.getElem?_set, oL_len]
  by_cases ht : t < n
  · rw [oL_get ht, oL_get ht]
    by_cases e : s = t
    · subst e
      rw [if_pos rfl, if_pos ht, if_pos rfl]
    · rw [if_neg e, if_neg (fun h => e h.symm)]
  · rw [List.getElem?_eq_none (by rw [oL_len]; omega), List.getElem?_eq_none (by rw [oL_len]; omega)]
    by_cases e : s = t
    · rw [if_pos e, if_neg (by omega)]
    · rw [if_neg e]
theorem rend_l {F n : Nat} {many : List Int} {o : Nat → Nat} (hn : many.length = n) (hn64 : n ≤ 64) : ∀ (k i : Nat), n < k + i → i ≤ n →
    M_R_HuffLengths_l324 F many (oL n o) k (i : Int) = some (if dOut ((oL n o).drop i) then ([], 8) else (oL n o, 0))
  | 0, _, _, _ => by omega
  | k + 1, i, h, hi => by
    show M_R_HuffLengths_b324 F many (oL n o) (M_R_HuffLengths_l324 F many (oL n o) k) (i : Int) = _
    unfold M_R_HuffLengths_b324 M_R_HuffLengths_j323
    by_cases hlt : i < n
    · have hl : i < (oL n o).length := by rw [oL_len]; exact hlt
      have hg : (oL n o)[i] = (o i : Int) := by
        have := oL_get (o := o) hlt
        rw [List.getElem?_eq_getElem hl] at this
        simpa using this
      rw [if_pos (by simp; omega), hoL hlt, List.drop_eq_getElem_cons hl, hg]
      simp only [Option.bind_some]
      unfold dOut
      rw [List.any_cons]
      by_cases hc : (24 : Int) < (o i : Int)
      · rw [if_pos (by simpa using hc), decide_eq_true hc]; rfl
      · rw [if_neg (by simpa using hc), decide_eq_false hc, Bool.false_or, iadd1_n (by omega)]
        exact rend_l hn hn64 k (i + 1) (by omega) (by omega)
    · rw [if_neg (by simp; omega), List.drop_eq_nil_of_le (by rw [oL_len]; omega)]
      rfl
theorem rend_eq {F n : Nat} {many : List Int} {o : Nat → Nat} (hF : 1000 ≤ F) (hn : many.length = n) (hn64 : n ≤ 64) : M_R_HuffLengths_j321 F many (oL n o) = some (hfin n o) := by
  unfold M_R_HuffLengths_j321
  have := rend_l (F := F) (o := o) hn hn64 F 0 (by omega) (Nat.zero_le _)
  rw [List.drop_zero] at this
  exact this
theorem ghd_le {g : Grp} (h : g.1.Pairwise (· < ·)) {s : Nat} (hs : s ∈ g.1) : ghd g ≤ s := by
  obtain ⟨l, w⟩ := g
  cases l with
  | nil => simp at hs
  | cons a t =>
    rcases List.mem_cons.1 hs with rfl | hs
    · exact Nat.le_refl _
    · exact Nat.le_of_lt ((List.pairwise_cons.1 h).1 s hs)
theorem ghd_merge {w o : Nat → Nat} {a b : Grp} {t : List Grp} (hi : HI w (a :: b :: t) o) : ghd (gmerge a b) = min (ghd a) (ghd b) := by
  have hm : gmerge a b ∈ gins (gmerge a b) t := (gins_perm _ _).mem_iff.2 (by simp)
  have h1 := head_mem (hi.step.ne _ hm)
  have hmem : ∀ s, s ∈ (gmerge a b).1 ↔ s ∈ a.1 ∨ s ∈ b.1 := fun s => by
    show s ∈ srtN (a.1 ++ b.1) ↔ _
    rw [(srtN_perm _).mem_iff, List.mem_append]
  have hup := hi.step.up _ hm
  have h2 := ghd_le hup ((hmem _).2 (.inl (head_mem (hi.ne a (by simp)))))
  have h3 := ghd_le hup ((hmem _).2 (.inr (head_mem (hi.ne b (by simp)))))
  rcases (hmem _).1 h1 with h4 | h4
  · have h5 := ghd_le (hi.up a (by simp)) h4
    unfold ghd at *
    omega
  · have h5 := ghd_le (hi.up b (by simp)) h4
    unfold ghd at *
    omega
theorem RI.step {many : List Int} {a b : Grp} {t : List Grp} {fo fw o : Nat → Nat} (hr : RI many (a :: b :: t) fo fw o) {m M : Nat} (hmM : (m = ghd a ∧ M = ghd b) ∨ (m = ghd b ∧ M = ghd a)) (hlt : m ≤ M) :
    RI many (gins (gmerge a b) t) (fun s => if decide (s ∈ a.1 ++ b.1) then m else fo s) (fun s => if s = m then fw m + fw M else fw s) (gbump o (a.1 ++ b.1)) := by
  have hmem : ∀ g, g ∈ gins (gmerge a b) t ↔ g = gmerge a b ∨ g ∈ t := fun g => by rw [(gins_perm _ _).mem_iff, List.mem_cons]
  have hgm := ghd_merge hr.hi
  have hm0 : ghd (gmerge a b) = m := by
    rw [hgm]
    rcases hmM with ⟨rfl, rfl⟩ | ⟨rfl, rfl⟩ <;> omega
  have hab : (a.1 ++ (b.1 ++ hsg t)).Nodup := hr.hi.nd
  rw [← List.append_assoc] at hab
  have hdis := (List.nodup_append.1 hab).2.2
  have hnot : ∀ g ∈ t, ∀ s ∈ g.1, s ∉ a.1 ++ b.1 := fun g hg s hs hm => hdis s hm s (mem_hsg.2 ⟨g, hg, hs⟩) rfl
  have hmin : m ∈ a.1 ++ b.1 := by
    rcases hmM with ⟨rfl, _⟩ | ⟨rfl, _⟩
    · exact List.mem_append.2 (.inl (head_mem (hr.hi.ne a (by simp))))
    · exact List.mem_append.2 (.inr (head_mem (hr.hi.ne b (by simp))))
  refine ⟨hr.hi.step, hsg_merge.trans hr.sg, fun g hg s hs => ?_, fun g hg => ?_⟩
  · rcases (hmem g).1 hg with rfl | hg
    · have : s ∈ a.1 ++ b.1 := (srtN_perm _).mem_iff.1 hs
      simp only [this, decide_true, if_true]
      exact hm0.symm
    · have := hnot g hg s hs
      simp only [this, decide_false, Bool.false_eq_true, if_false]
      exact hr.of_ g (by simp [hg]) s hs
  · rcases (hmem g).1 hg with rfl | hg
    · simp only [hm0, if_true]
      show _ = a.2 + b.2
      have h1 := hr.wt a (by simp)
      have h2 := hr.wt b (by simp)
      rcases hmM with ⟨rfl, rfl⟩ | ⟨rfl, rfl⟩
      · rw [h1, h2]
      · rw [h1, h2]; omega
    · have : ghd g ≠ m := fun e => hnot g hg _ (head_mem (hr.hi.ne g (by simp [hg]))) (by
        rw [show g.1.headD 0 = m from e]; exact hmin)
      simp only [this, if_false]
      exact hr.wt g (by simp [hg])
theorem rrun_l {F : Nat} {many : List Int} (hF : 20000 ≤ F) (hm : HM many) : ∀ (k : Nat) (h : List Grp) (fo fw o : Nat → Nat), h.length < k → (h.length = 1 ∨ RI many h fo fw o) → nsum (hsg h) (hw many) ≤ 1000000000 →
    M_R_HuffLengths_l531 F many k (oL many.length fo, oL many.length fw, oL many.length o, (h.length : Int)) = some (hfin many.length (hrun h.length h o))
  | 0, _, _, _, _, hk, _, _ => absurd hk (by omega)
  | k + 1, h, fo, fw, o, hk, hi, hW => by
    show M_R_HuffLengths_b531 F many (M_R_HuffLengths_l531 F many k) (oL many.length fo) (oL many.length fw) (oL many.length o) (h.length : Int) = _
    unfold M_R_HuffLengths_b531
    have hm1 := hm.1
    match h, hi with
    | [], _ => rw [if_neg (by simp)]; exact rend_eq (by omega) rfl hm1
    | [a], _ => rw [if_neg (by simp)]; exact rend_eq (by omega) rfl hm1
    | a :: b :: t, hi =>
      have hr : RI many (a :: b :: t) fo fw o := hi.resolve_left (by simp)
      rw [if_pos (by simp; omega)]
      have hs := scan_l (F := F) (rec531 := M_R_HuffLengths_l531 F many k) (x5889 := oL many.length o) (x5890 := ((a :: b :: t).length : Int)) hm hr F 0 (by omega) (Nat.zero_le _)
      have e0 : hbl (a :: b :: t) 0 = [] := by
        unfold hbl
        rw [List.filter_eq_nil_iff]
        intro g _
        simp
      rw [e0] at hs
      have hs' : M_R_HuffLengths_l625 F (M_R_HuffLengths_l531 F many k) many (oL many.length fo) (oL many.length fw) (oL many.length o) ((a :: b :: t).length : Int) F (-1, -1, 0) = _ := hs
      rw [hs']
      rw [show (fst2 (a :: b :: t)).1 = (ghd a : Int) from rfl, show (fst2 (a :: b :: t)).2 = (ghd b : Int) from rfl]
      have key : ∀ m M : Nat, ((m = ghd a ∧ M = ghd b) ∨ (m = ghd b ∧ M = ghd a)) → m ≤ M → M_R_HuffLengths_j561 F (M_R_HuffLengths_l531 F many k) many (oL many.length fo) (oL many.length fw) (oL many.length o) ((a :: b :: t).length : Int) (m : Int) (M : Int) = some (hfin many.length (hrun (a :: b :: t).length (a :: b :: t) o)) := fun m M hmM hle => by
        unfold M_R_HuffLengths_j561
        have hla := hr.lt (g := a) (by simp) (head_mem (hr.hi.ne a (by simp)))
        have hlb := hr.lt (g := b) (by simp) (head_mem (hr.hi.ne b (by simp)))
        have hmn : m < many.length := by rcases hmM with ⟨rfl, _⟩ | ⟨rfl, _⟩; exact hla.1; exact hlb.1
        have hMn : M < many.length := by rcases hmM with ⟨_, rfl⟩ | ⟨_, rfl⟩; exact hlb.1; exact hla.1
        have hmg := rmerge_l (F := F) (n := many.length) (m := m) (M := M) (rec531 := M_R_HuffLengths_l531 F many k) (many := many) (x5888 := oL many.length fw) (x5890 := ((a :: b :: t).length : Int)) (fo := fo) (o := o) (AB := fun s => decide (s ∈ a.1 ++ b.1)) rfl hm
          (fun s hsm => by
            have hsm' : s ∈ a.1 ++ b.1 := by simpa using hsm
            have hu : s ∈ hsg (a :: b :: t) := by
              refine mem_hsg.2 ?_
              rcases List.mem_append.1 hsm' with h1 | h1
              · exact ⟨a, by simp, h1⟩
              · exact ⟨b, by simp, h1⟩
            have := hr.hi.low s hu
            omega)
          (fun s hsn => by
            rw [decide_eq_true_eq]
            constructor
            · intro hsm
              rcases List.mem_append.1 hsm with h1 | h1
              · have h2 := hr.of_ a (by simp) s h1
                refine ⟨(hr.lt (g := a) (by simp) h1).2, ?_⟩
                rcases hmM with ⟨rfl, rfl⟩ | ⟨rfl, rfl⟩
                · exact .inl h2
                · exact .inr h2
              · have h2 := hr.of_ b (by simp) s h1
                refine ⟨(hr.lt (g := b) (by simp) h1).2, ?_⟩
                rcases hmM with ⟨rfl, rfl⟩ | ⟨rfl, rfl⟩
                · exact .inr h2
                · exact .inl h2
            · rintro ⟨hp, hf⟩
              obtain ⟨g, hg, hsg2⟩ := mem_hsg.1 (hr.sg.mem_iff.2 (mem_usd.2 ⟨hsn, hp⟩))
              have h2 := hr.of_ g hg s hsg2
              have h3 : ghd g = ghd a ∨ ghd g = ghd b := by
                rcases hmM with ⟨rfl, rfl⟩ | ⟨rfl, rfl⟩ <;> rcases hf with hf | hf
                · exact .inl (h2.symm.trans hf)
                · exact .inr (h2.symm.trans hf)
                · exact .inr (h2.symm.trans hf)
                · exact .inl (h2.symm.trans hf)
              have hgh := head_mem (hr.hi.ne g hg)
              rcases h3 with h3 | h3
              · have := hd_apart hr.hi hg (show a ∈ a :: b :: t by simp) hgh (by
                  rw [show g.1.headD 0 = a.1.headD 0 from h3]; exact head_mem (hr.hi.ne a (by simp)))
                subst this
                exact List.mem_append.2 (.inl hsg2)
              · have := hd_apart hr.hi hg (show b ∈ a :: b :: t by simp) hgh (by
                  rw [show g.1.headD 0 = b.1.headD 0 from h3]; exact head_mem (hr.hi.ne b (by simp)))
                subst this
                exact List.mem_append.2 (.inr hsg2)) F 0 (by omega) (Nat.zero_le _)
        have z1 : oL many.length (fun s => if decide (s < 0) && decide (s ∈ a.1 ++ b.1) then m else fo s) = oL many.length fo := by
          congr 1
        have z2 : oL many.length (fun s => if decide (s < 0) && decide (s ∈ a.1 ++ b.1) then o s + 1 else o s) = oL many.length o := by
          congr 1
        rw [z1, z2] at hmg
        have hmg' : M_R_HuffLengths_l599 F (M_R_HuffLengths_l531 F many k) many (oL many.length fw) ((a :: b :: t).length : Int) (m : Int) (M : Int) F (oL many.length fo, oL many.length o, 0) = _ := hmg
        rw [hmg']
        unfold M_R_HuffLengths_j584
        have hw1 : fw m + fw M = a.2 + b.2 := by
          have h1 := hr.wt a (by simp)
          have h2 := hr.wt b (by simp)
          rcases hmM with ⟨rfl, rfl⟩ | ⟨rfl, rfl⟩
          · rw [h1, h2]
          · rw [h1, h2]; omega
        have hww : a.2 + b.2 ≤ nsum (hsg (a :: b :: t)) (hw many) := by
          have h1 : hsg (a :: b :: t) = a.1 ++ (b.1 ++ hsg t) := rfl
          rw [h1, nsum_app, nsum_app, hr.hi.wt a (by simp), hr.hi.wt b (by simp)]
          omega
        rw [hoL hmn, hoL hMn]
        simp only [Option.bind_some, lett]
        rw [iadd_n (by omega), Int.toNat_natCast, oL_setg]
        have hsub : isub .i64 ((a :: b :: t).length : Int) 1 = ((gins (gmerge a b) t).length : Int) := by
          rw [gins_len]
          simp only [List.length_cons] at hk ⊢
          have := hr.hi.low _ (mem_hsg.2 ⟨a, by simp, head_mem (hr.hi.ne a (by simp))⟩)
          simp only [List.length_cons] at this
          rw [isub_i64 (by omega) (by omega)]; omega
        have hlen := gins_len (gmerge a b) t
        simp only [List.length_cons] at hk
        have hst := hr.step hmM hle
        have hob : (fun s => if decide (s ∈ a.1 ++ b.1) then o s + 1 else o s) = gbump o (a.1 ++ b.1) := by
          funext s
          unfold gbump
          by_cases h : s ∈ a.1 ++ b.1
          · rw [if_pos h, if_pos (by simpa using h)]
          · rw [if_neg h, if_neg (by simpa using h)]
        have hrec := rrun_l hF hm k (gins (gmerge a b) t) _ _ _ (by omega) (.inr hst) (by rw [nsum_perm hsg_merge]; exact hW)
        rw [hsub, hob, hrec, hlen]
        rfl
      unfold M_R_HuffLengths_j560
      by_cases hc : ghd b < ghd a
      · rw [if_pos (by simp only [decide_eq_true_eq]; omega)]
        exact key (ghd b) (ghd a) (.inr ⟨rfl, rfl⟩) (by omega)
      · rw [if_neg (by simp only [decide_eq_true_eq]; omega)]
        exact key (ghd a) (ghd b) (.inl ⟨rfl, rfl⟩) (by omega)
theorem many_oL {many : List Int} (hm : HM many) : many = oL many.length (hw many) := by
  apply List.ext_getElem?
  intro t
  by_cases ht : t < many.length
  · rw [oL_get ht, gL_get ht]
    have := hm.at ht
    unfold hw
    congr 1
    omega
  · rw [List.getElem?_eq_none (by omega), List.getElem?_eq_none (by rw [oL_len]; omega)]
theorem rinit_l {F : Nat} {many x11 x14 : List Int} (hm : HM many) : ∀ (k i : Nat), many.length < k + i → i ≤ many.length →
    M_R_HuffLengths_l641 F many x11 x14 k (oL many.length (fun s => if s < i then s else 0), ((usdTo many i).length : Int), (i : Int)) =
      M_R_HuffLengths_j5 F many x11 x14 (oL many.length (fun s => s)) ((usd many).length : Int)
  | 0, _, _, _ => by omega
  | k + 1, i, h, hi => by
    show M_R_HuffLengths_b641 F many x11 x14 (M_R_HuffLengths_l641 F many x11 x14 k) (oL many.length (fun s => if s < i then s else 0)) ((usdTo many i).length : Int) (i : Int) = _
    unfold M_R_HuffLengths_b641 M_R_HuffLengths_j642
    have hm1 := hm.1
    by_cases hlt : i < many.length
    · have hrec := rinit_l (F := F) (x11 := x11) (x14 := x14) hm k (i + 1) (by omega) (by omega)
      rw [usdTo_succ] at hrec
      have hle : (usdTo many i).length ≤ i := by
        have := List.length_filter_le (fun t => decide (0 < gL many t)) (List.range i)
        rwa [List.length_range] at this
      rw [if_pos (by simp; omega), hoL hlt]
      simp only [Option.bind_some, lett]
      rw [hgL hlt, Int.toNat_natCast, oL_setg]
      simp only [Option.bind_some]
      rw [iadd1_n (by omega), iadd1_n (by omega)]
      have e1 : (fun t => if t = i then i else if t < i then t else 0) = (fun s => if s < i + 1 then s else 0) := by
        funext t
        by_cases h1 : t = i
        · rw [if_pos h1, if_pos (by omega), h1]
        · rw [if_neg h1]
          by_cases h2 : t < i
          · rw [if_pos h2, if_pos (by omega)]
          · rw [if_neg h2, if_neg (by omega)]
      rw [e1]
      by_cases h0 : 0 < gL many i
      · rw [if_pos h0, List.length_append, List.length_singleton] at hrec
        rw [if_pos (by simpa using h0)]
        exact hrec
      · rw [if_neg h0, List.append_nil] at hrec
        rw [if_neg (by simpa using h0)]
        exact hrec
    · rw [if_neg (by simp; omega)]
      have e : i = many.length := by omega
      subst e
      have e1 : oL many.length (fun s => if s < many.length then s else 0) = oL many.length (fun s => s) := by
        exact oL_congr fun s hs => if_pos hs
      rw [e1]; rfl
theorem rone_l {F : Nat} {many x11 x93 : List Int} {x94 : Int} (hm : HM many) (hu : (usd many).length = 1) : ∀ (k i : Nat), many.length < k + i → i ≤ many.length →
    M_R_HuffLengths_l637 F many x11 x93 x94 k (oL many.length (fun s => if decide (s < i) && decide (0 < gL many s) then 1 else 0), (i : Int)) =
      M_R_HuffLengths_j10 F many x11 x93 x94 (oL many.length (ho many))
  | 0, _, _, _ => by omega
  | k + 1, i, h, hi => by
    show M_R_HuffLengths_b637 F many x11 x93 x94 (M_R_HuffLengths_l637 F many x11 x93 x94 k) (oL many.length (fun s => if decide (s < i) && decide (0 < gL many s) then 1 else 0)) (i : Int) = _
    unfold M_R_HuffLengths_b637 M_R_HuffLengths_j638
    have hm1 := hm.1
    by_cases hlt : i < many.length
    · have hrec := rone_l (F := F) (x11 := x11) (x93 := x93) (x94 := x94) hm hu k (i + 1) (by omega) (by omega)
      rw [if_pos (by simp; omega), hgL hlt]
      simp only [Option.bind_some]
      rw [iadd1_n (by omega), ← hrec]
      by_cases h0 : 0 < gL many i
      · rw [if_pos (by simpa using h0), hoL hlt]
        simp only [Option.bind_some, lett]
        rw [Int.toNat_natCast]
        have := oL_setg (n := many.length) (s := i) (v := 1) (o := fun s => if decide (s < i) && decide (0 < gL many s) then 1 else 0)
        rw [show ((1 : Nat) : Int) = 1 from rfl] at this
        rw [this]
        congr 2
        refine oL_congr fun t _ => ?_
        by_cases e : t = i
        · subst e; simp [h0]
        · have h2 : decide (t < i) = decide (t < i + 1) := by rw [decide_eq_decide]; omega
          simp only [e, if_false, h2]
      · rw [if_neg (by simpa using h0)]
        congr 2
        refine oL_congr fun t _ => ?_
        by_cases e : t = i
        · subst e; simp [h0]
        · have h2 : decide (t < i) = decide (t < i + 1) := by rw [decide_eq_decide]; omega
          simp only [h2]
    · rw [if_neg (by simp; omega)]
      have e : i = many.length := by omega
      subst e
      unfold M_R_HuffLengths_j10
      congr 4
      refine oL_congr fun t ht' => ?_
      have hl : (hst many many.length).length = 1 := by rw [hst_len, usdTo_all, hu]
      have hsgp := hst_sg many many.length
      unfold ho
      by_cases h0 : 0 < gL many t
      · rw [if_pos (by simp [ht', h0]), if_pos ⟨hl, hsgp.mem_iff.2 (mem_usd.2 ⟨ht', h0⟩)⟩]
      · rw [if_neg (by simp [h0]), if_neg (fun h => h0 (mem_usd.1 (hsgp.mem_iff.1 h.2)).2)]
theorem rlengths_eq {F : Nat} {many : List Int} (hF : 20000 ≤ F) : M_R_HuffLengths F many = some (hlenM many) := by
  unfold M_R_HuffLengths hlenM
  rw [rherr_eq (by omega)]
  simp only [Option.bind_some]
  by_cases hc : hchk many = 0
  · rw [if_neg (by simp [hc]), if_neg (by simp [hc])]
    have hm := hchk_ok.1 hc
    have hm1 := hm.1
    rw [hmk_rep (by omega), app_eq (by simp; omega)]
    simp only [Option.bind_some, List.nil_append]
    have ez : List.replicate many.length (0 : Int) = oL many.length (fun _ => 0) := by
      apply List.ext_getElem?
      intro i
      by_cases h : i < many.length
      · rw [oL_get h]; simp [h]
      · rw [List.getElem?_eq_none (by simp; omega), List.getElem?_eq_none (by rw [oL_len]; omega)]
    have h1 := rinit_l (F := F) (x11 := many) (x14 := List.replicate many.length 0) hm F 0 (by omega) (Nat.zero_le _)
    have e1 : oL many.length (fun s => if s < 0 then s else 0) = List.replicate many.length 0 := by
      rw [ez]; congr 1
    rw [e1] at h1
    have h1' : M_R_HuffLengths_l641 F many many (List.replicate many.length 0) F (List.replicate many.length 0, 0, 0) = _ := h1
    rw [h1']
    unfold M_R_HuffLengths_j5
    have hsgp := hst_sg many many.length
    have hlen : (hst many many.length).length = (usd many).length := by rw [hst_len, usdTo_all]
    have hul := usd_le many
    have hW : nsum (hsg (hst many many.length)) (hw many) ≤ 1000000000 := by
      rw [nsum_perm hsgp, usdTo_all]
      have h2 := nsum_bound (l := usd many) (f := hw many) (c := 1048576) (fun s hs => by
        have := hm.at (mem_usd.1 hs).1
        unfold hw; omega)
      have : (usd many).length * 1048576 ≤ 64 * 1048576 := Nat.mul_le_mul_right _ (by omega)
      omega
    have hmo := many_oL hm
    by_cases hone : (usd many).length = 1
    · rw [if_pos (by rw [hone]; rfl)]
      have h2 := rone_l (F := F) (x11 := many) (x93 := oL many.length (fun s => s)) (x94 := ((usd many).length : Int)) hm hone F 0 (by omega) (Nat.zero_le _)
      have e2 : oL many.length (fun s => if decide (s < 0) && decide (0 < gL many s) then 1 else 0) = List.replicate many.length 0 := by
        rw [ez]; congr 1
      rw [e2] at h2
      have h2' : M_R_HuffLengths_l637 F many many (oL many.length (fun s => s)) ((usd many).length : Int) F (List.replicate many.length 0, 0) = _ := h2
      rw [h2']
      unfold M_R_HuffLengths_j10
      have h3 := rrun_l (F := F) hF hm F (hst many many.length) (fun s => s) (hw many) (ho many) (by omega) (.inl (by rw [hlen, hone])) hW
      rw [← hmo, hlen] at h3
      rw [h3, hdep_eq, hlen]
    · rw [if_neg (by simp; omega)]
      unfold M_R_HuffLengths_j10
      have hne : (hst many many.length).length ≠ 1 := by rw [hlen]; exact hone
      have e4 : (fun _ : Nat => 0) = ho many := by
        funext s
        unfold ho
        rw [if_neg (fun h => hne h.1)]
      have hi := hst_HI hm (o := ho many) hne (fun s => by unfold ho; rw [if_neg (fun h => hne h.1)])
      have hr : RI many (hst many many.length) (fun s => s) (hw many) (ho many) := ⟨hi, hsgp, fun g hg s hs => by
        obtain ⟨u, _, rfl⟩ := hst_one many _ g hg
        simpa using hs, fun g hg => by
        obtain ⟨u, _, rfl⟩ := hst_one many _ g hg
        rfl⟩
      have h3 := rrun_l (F := F) hF hm F (hst many many.length) (fun s => s) (hw many) (ho many) (by omega) (.inr hr) hW
      rw [← hmo, hlen] at h3
      rw [ez, e4, h3, hdep_eq, hlen]
  · rw [if_pos (by simpa using hc), if_pos hc]
theorem rcost_l {F : Nat} {many l : List Int} (hm : HM many) (hl : KL l) (he : many.length = l.length) : ∀ (k i : Nat), many.length < k + i → i ≤ many.length →
    M_R_HuffCost_l25 F many l k ((hcs many l i : Int), (i : Int)) = some (if ((List.range many.length).drop i).any (hbad many l) then (0, 4) else ((hcs many l many.length : Int), 0))
  | 0, _, _, _ => by omega
  | k + 1, i, h, hi => by
    show M_R_HuffCost_b25 F many l (M_R_HuffCost_l25 F many l k) (hcs many l i : Int) (i : Int) = _
    unfold M_R_HuffCost_b25 M_R_HuffCost_j29
    have hm1 := hm.1
    by_cases hlt : i < many.length
    · have hrec := rcost_l (F := F) hm hl he k (i + 1) (by omega) (by omega)
      have h2 := hm.at hlt
      have h3 := hl.at (show i < l.length by omega)
      have h5 := hcs_le hm hl he (i + 1) (by omega)
      have h6 : (i + 1) * 25165824 ≤ 64 * 25165824 := Nat.mul_le_mul_right _ (by omega)
      rw [if_pos (by simp; omega), hgL hlt]
      simp only [Option.bind_some]
      rw [hgL (show i < l.length by omega)]
      simp only [Option.bind_some]
      have hd : (List.range many.length).drop i = i :: (List.range many.length).drop (i + 1) := by
        rw [List.drop_eq_getElem_cons (by simpa using hlt)]; simp
      rw [hd, List.any_cons]
      have hmul : imul .i64 (gL many i) (gL l i) = ((hw many i * (gL l i).toNat : Nat) : Int) := by
        have e1 : gL many i = (hw many i : Int) := by unfold hw; omega
        have e2 : gL l i = ((gL l i).toNat : Int) := by omega
        have h7 : hw many i * (gL l i).toNat ≤ 1048576 * 24 := Nat.mul_le_mul (by unfold hw; omega) (by omega)
        rw [e1, e2, Int.toNat_natCast]
        have e3 : ((hw many i : Nat) : Int) * ((gL l i).toNat : Int) = ((hw many i * (gL l i).toNat : Nat) : Int) := by rw [Int.natCast_mul]
        rw [imul_i64 (by rw [e3]; omega) (by rw [e3]; omega), e3]
      rw [hcs_succ] at h5 hrec
      have hadd : iadd .i64 (hcs many l i : Int) (imul .i64 (gL many i) (gL l i)) = ((hcs many l i + hw many i * (gL l i).toNat : Nat) : Int) := by
        rw [hmul, iadd_n (by omega)]
      rw [hadd, iadd1_n (by omega), hrec]
      by_cases hb : hbad many l i = true
      · rw [hb, Bool.true_or, if_pos rfl]
        unfold hbad at hb
        simp only [Bool.and_eq_true, decide_eq_true_eq] at hb
        rw [if_pos (by simpa using hb.1), hb.2]
        simp
      · rw [Bool.not_eq_true] at hb
        rw [hb, Bool.false_or]
        unfold hbad at hb
        by_cases h0 : 0 < gL many i
        · have : gL l i ≠ 0 := by
            intro h; rw [h] at hb; simp at hb; omega
          rw [if_pos (by simpa using h0), if_neg (by simpa using this)]
        · rw [if_neg (by simpa using h0), if_neg (by simp)]
    · rw [if_neg (by simp; omega)]
      have : i = many.length := by omega
      subst this
      rw [List.drop_eq_nil_of_le (by simp)]
      rfl
theorem rcost_eq {F : Nat} {many l : List Int} (hF : 20000 ≤ F) : M_R_HuffCost F many l = some (costM many l) := by
  unfold M_R_HuffCost costM M_R_HuffCost_j1 M_R_HuffCost_j2
  rw [rkcheck_eq (by omega)]
  simp only [Option.bind_some]
  by_cases h1 : kchk l = 0
  · rw [if_neg (show ¬ kchk l ≠ 0 by simp [h1])]
    by_cases h2 : many.length = l.length
    · rw [if_neg (by simp [h1, h2]), if_pos (by simp [h1]), rherr_eq (by omega), if_neg (show ¬ many.length ≠ l.length by simp [h2])]
      simp only [Option.bind_some]
      by_cases h3 : hchk many = 0
      · rw [if_neg (by simp [h3]), if_neg (by simp [h3])]
        have hm := hchk_ok.1 h3
        have := rcost_l (F := F) hm (kchk_ok.1 h1) h2 F 0 (by have := hm.1; omega) (by omega)
        rw [List.drop_zero] at this
        exact this
      · rw [if_pos (by simpa using h3), if_pos h3]
    · rw [if_pos (by simp [h1]; omega), if_neg (by simp), if_pos (by simp), if_pos h2]
  · rw [if_neg (by simp [h1]), if_neg (by simpa using h1), if_pos (by simpa using h1), if_pos h1]
theorem rbits_l {F : Nat} {signs l : List Int} {e c : Int} (hF : 20000 ≤ F) (hl : KL l) (hlen : signs.length ≤ 1000) (hn : signs = ksgs (hsN signs)) (hu : ∀ s ∈ hsN signs, s < l.length) (hX : (kflat l (hsN signs)).length ≤ 8192) : ∀ (k i : Nat), signs.length < k + i → i ≤ signs.length →
    M_R_HuffPack_l5 F signs (l, e) (cds l, c) k (kflat l ((hsN signs).take i), (i : Int)) = some (l, ((kflat l (hsN signs)).length : Int), pk (kflat l (hsN signs)), 0)
  | 0, _, _, _ => by omega
  | k + 1, i, h, hi => by
    show M_R_HuffPack_b5 F signs (l, e) (cds l, c) (M_R_HuffPack_l5 F signs (l, e) (cds l, c) k) (kflat l ((hsN signs).take i)) (i : Int) = _
    unfold M_R_HuffPack_b5
    have hsl : (hsN signs).length = signs.length := by simp [hsN]
    by_cases hlt : i < signs.length
    · have hlt' : i < (hsN signs).length := by omega
      have hg0 : (ksgs (hsN signs))[i]? = some (((hsN signs)[i] : Nat) : Int) := by simp [ksgs, hlt']
      rw [← hn] at hg0
      have hg : idx signs (i : Int) = some (((hsN signs)[i] : Nat) : Int) := by rw [idx_nat, hg0]
      have hsl2 := hu _ (List.getElem_mem hlt')
      rw [if_pos (by simp; omega), hg]
      simp only [Option.bind_some]
      have hc : (cds l)[(hsN signs)[i]]? = some (ent l (hsN signs)[i]) := by simp [cds, hsl2]
      rw [idx_nat, hc]
      simp only [Option.bind_some]
      have hst : kflat l ((hsN signs).take (i + 1)) = kflat l ((hsN signs).take i) ++ cd l (hsN signs)[i] := by rw [take_snoc hlt', kflat_snoc]
      have hgl := hl.at hsl2
      have hcl := cd_len l (hsN signs)[i]
      have e1 : (ent l (hsN signs)[i]).1 = ((cd l (hsN signs)[i]).length : Int) := by
        show gL l (hsN signs)[i] = _
        omega
      have e2 : (ent l (hsN signs)[i]).2 = pk (cd l (hsN signs)[i]) := rfl
      have hle : (kflat l ((hsN signs).take (i + 1))).length ≤ (kflat l (hsN signs)).length := by
        have : kflat l (hsN signs) = kflat l ((hsN signs).take (i + 1)) ++ kflat l ((hsN signs).drop (i + 1)) := by
          unfold kflat
          rw [← List.flatten_append, ← List.map_append, List.take_append_drop]
        rw [this, List.length_append]
        omega
      rw [hst, List.length_append] at hle
      rw [e1, e2, bitList_pk hF (cd_bit _ _) (by omega)]
      simp only [Option.bind_some]
      rw [app_eq (by omega)]
      simp only [Option.bind_some]
      rw [iadd1_n (by omega), ← hst]
      exact rbits_l hF hl hlen hn hu hX k (i + 1) (by omega) (by omega)
    · rw [if_neg (by simp; omega)]
      unfold M_R_HuffPack_j4
      have e : (hsN signs).take i = hsN signs := List.take_of_length_le (by omega)
      rw [e, packBits_eq (by omega) (kflat_bit _ _) (by omega)]
      rfl
theorem rpcnt_l {F m : Nat} {signs : List Int} (hm : m ≤ 64) (hs : signs.length ≤ 9223372036854775807) : ∀ (k i : Nat), signs.length < k + i → i ≤ signs.length →
    M_R_HuffPack_l6 F signs (m : Int) k (oL m (hcnt (signs.take i)), (i : Int)) = if hsOut (signs.drop i) (m : Int) then some ([], 0, [], 3) else M_R_HuffPack_j2 F signs (oL m (hcnt signs))
  | 0, _, _, _ => by omega
  | k + 1, i, h, hi => by
    show M_R_HuffPack_b6 F signs (m : Int) (M_R_HuffPack_l6 F signs (m : Int) k) (oL m (hcnt (signs.take i))) (i : Int) = _
    unfold M_R_HuffPack_b6
    by_cases hlt : i < signs.length
    · rw [if_pos (by simp; omega), idx_nat, List.getElem?_eq_getElem hlt, List.drop_eq_getElem_cons hlt]
      simp only [Option.bind_some]
      unfold hsOut M_R_between
      rw [List.any_cons, isub_i64 (by omega) (by omega)]
      simp only [Option.bind_some]
      by_cases hc : (decide (signs[i] < 0) || decide ((m : Int) ≤ signs[i])) = true
      · have hc2 : (!(decide (0 ≤ signs[i]) && decide (signs[i] ≤ (m : Int) - 1))) = true := by simp at hc ⊢; omega
        rw [hc2, if_pos rfl, hc]; rfl
      · rw [Bool.not_eq_true] at hc
        have hc2 : (!(decide (0 ≤ signs[i]) && decide (signs[i] ≤ (m : Int) - 1))) = false := by simp at hc ⊢; omega
        rw [hc2, if_neg (by simp), hc, Bool.false_or]
        have hc' : ¬ signs[i] < 0 ∧ ¬ (m : Int) ≤ signs[i] := by simpa using hc
        obtain ⟨s, hs'⟩ := Int.eq_ofNat_of_zero_le (show 0 ≤ signs[i] by omega)
        have hsm : s < m := by omega
        rw [hs', hoL hsm]
        simp only [Option.bind_some, lett]
        have hle := hcnt_le (signs.take i) s
        rw [List.length_take] at hle
        rw [Int.toNat_natCast, iadd_i64 (by omega) (by omega), iadd1_n (by omega), oL_set (o' := hcnt (signs.take (i + 1))) (fun t _ => hcnt_snoc hlt hs' t) hsm]
        exact rpcnt_l hm hs k (i + 1) (by omega) (by omega)
    · rw [if_neg (by simp; omega), List.drop_eq_nil_of_le (by omega), List.take_of_length_le (by omega), show hsOut [] (m : Int) = false from rfl, if_neg (by simp)]
theorem rpack_eq {F : Nat} {signs : List Int} {many : Int} (hF : 20000 + signs.length ≤ F) (hs : signs.length ≤ 9223372036854775807) : M_R_HuffPack F signs many = some (packM signs many) := by
  unfold M_R_HuffPack M_R_between
  simp only [Option.bind_some]
  by_cases h1 : many < 0 ∨ 64 < many
  · have hc : cntM signs many = ([], 3) := by unfold cntM; rw [if_pos h1]
    rw [if_pos (by simp; omega)]
    unfold packM
    rw [hc, if_pos (by simp)]
  · rw [if_neg (by simp; omega)]
    obtain ⟨m, rfl⟩ := Int.eq_ofNat_of_zero_le (show 0 ≤ many by omega)
    rw [hmk_rep (by omega)]
    simp only [Option.bind_some]
    have e0 : List.replicate m (0 : Int) = oL m (hcnt (signs.take 0)) := by
      apply List.ext_getElem?
      intro i
      by_cases h : i < m
      · rw [oL_get h]; simp [h, hcnt]
      · rw [List.getElem?_eq_none (by simp; omega), List.getElem?_eq_none (by rw [oL_len]; omega)]
    have hc := rpcnt_l (F := F) (m := m) (signs := signs) (by omega) hs F 0 (by omega) (Nat.zero_le _)
    rw [← e0, List.drop_zero] at hc
    have hc' : M_R_HuffPack_l6 F signs (m : Int) F (List.replicate m 0, 0) = _ := hc
    rw [hc']
    by_cases h2 : hsOut signs (m : Int) = true
    · have hcm : cntM signs (m : Int) = ([], 3) := by unfold cntM; rw [if_neg h1, if_pos h2]
      rw [if_pos h2]
      unfold packM
      rw [hcm, if_pos (by simp)]
    · rw [if_neg h2]
      unfold M_R_HuffPack_j2
      by_cases h3 : 1000 < signs.length
      · have hcm : cntM signs (m : Int) = ([], 2) := by unfold cntM; rw [if_neg h1, if_neg h2, if_pos h3]
        rw [if_pos (by simp; omega)]
        unfold packM
        rw [hcm, if_pos (by simp)]
      · have hcm : cntM signs (m : Int) = (oL m (hcnt signs), 0) := by unfold cntM; rw [if_neg h1, if_neg h2, if_neg h3, Int.toNat_natCast]
        rw [if_neg (by simp; omega), rlengths_eq (by omega)]
        simp only [Option.bind_some]
        unfold packM
        rw [hcm]
        simp only
        rw [if_neg (show ¬ ((0 : Int) ≠ 0) by simp)]
        by_cases h4 : (hlenM (oL m (hcnt signs))).2 = 0
        · obtain ⟨m', hm', hp, _⟩ := cntM_ok (signs := signs) (many := (m : Int)) (by rw [hcm])
          have : m' = m := by omega
          subst this
          obtain ⟨hm, hl, h24⟩ := hlenM_ok h4
          rw [if_neg (by simp [h4]), if_neg (by simp [h4]), rcost_eq (by omega), hl]
          have hcost := hd_cost hm h24
          rw [hcost]
          simp only [Option.bind_some]
          have h24' : ∀ s, s < m' → hdep (oL m' (hcnt signs)) s ≤ 24 := by rw [oL_len] at h24; exact h24
          have hcb := cost_bits hp h24'
          rw [hcb]
          have hkl := hd_KL hm h24
          have hco := hd_codes hm h24
          rw [oL_len] at hkl hco ⊢
          by_cases h5 : 8192 < (kflat (oL m' (hdep (oL m' (hcnt signs)))) (hsN signs)).length
          · rw [if_pos (by simp; omega), if_pos h5]
          · rw [if_neg (by simp; omega), if_neg h5, rcodes_eq (by omega), hco]
            simp only [Option.bind_some]
            have := rbits_l (F := F) (signs := signs) (e := 0) (c := 0) (by omega) hkl hp.len hp.nat (fun s hs => by rw [oL_len]; exact (hp.used hs).1) (by omega) F 0 (by have := hp.len; omega) (Nat.zero_le _)
            exact this
        · rw [if_pos (by simpa using h4), if_pos h4]
theorem runp_l {F n : Nat} {l b : List Int} {m : Nat} (hF : 20000 ≤ F) (hb : U8s b) (hok : (codesM l).2 = 0) (hck : chkOf (m : Int) b = 0) (hn : n ≤ 1000) : ∀ (k a : Nat) (out : List Int), n + 1 < k + out.length → out.length ≤ n → a ≤ m →
    M_R_HuffUnpack_l6 F l (m : Int) b (n : Int) k (out, (a : Int)) = some (if (upk (dsl l) (bl b m) (n - out.length) a).2 ≠ 0 then ([], (upk (dsl l) (bl b m) (n - out.length) a).2) else (out ++ (upk (dsl l) (bl b m) (n - out.length) a).1, 0))
  | 0, a, out, h, _, _ => absurd h (by omega)
  | k + 1, a, out, h, ho, ha => by
    show M_R_HuffUnpack_b6 F l (m : Int) b (n : Int) (M_R_HuffUnpack_l6 F l (m : Int) b (n : Int) k) out (a : Int) = _
    unfold M_R_HuffUnpack_b6
    by_cases hlt : out.length < n
    · have hsg : signM l (m : Int) b (a : Int) = fndM (dsl l) ((bl b m).drop a) a := by
        unfold signM
        have hra : raOf (m : Int) b (a : Int) = 0 := by
          unfold raOf
          rw [if_neg (by simp [hck]), if_neg (by omega)]
        rw [if_neg (by simp [hok]), if_neg (by simp [hra]), Int.toNat_natCast, Int.toNat_natCast]
      rw [if_pos (by simp; omega), rsign_eq hF hb, hsg]
      simp only [Option.bind_some]
      have hs : n - out.length = (n - (out.length + 1)) + 1 := by omega
      rw [hs]
      unfold upk
      by_cases he : (fndM (dsl l) ((bl b m).drop a) a).2.2 = 0
      · obtain ⟨a', e1, e2⟩ := fnd_at he
        rw [List.length_drop, bl_len] at e2
        have hrec := runp_l hF hb hok hck hn k a' (out ++ [(fndM (dsl l) ((bl b m).drop a) a).1]) (by simp; omega) (by simp; omega) (by omega)
        rw [if_neg (by simp [he]), app_eq (by simp; omega)]
        simp only [Option.bind_some]
        rw [e1, hrec, List.length_append, List.length_singleton, if_neg (show ¬ ((fndM (dsl l) ((bl b m).drop a) a).2.2 ≠ 0) by simp [he]), Int.toNat_natCast]
        by_cases h2 : (upk (dsl l) (bl b m) (n - (out.length + 1)) a').2 = 0
        · simp only [h2, ne_eq, not_true_eq_false, if_false]
          simp
        · simp only [h2, ne_eq, not_false_eq_true, if_true]
      · rw [if_pos (by simpa using he), if_pos he, if_pos he]
    · rw [if_neg (by simp; omega)]
      have hs : n - out.length = 0 := by omega
      rw [hs]
      unfold upk M_R_HuffUnpack_j5
      rw [bl_len]
      by_cases h1 : a < m
      · rw [if_pos (by simp; omega), if_pos h1, if_pos (by simp)]
      · rw [if_neg (by simp; omega), if_neg h1, if_neg (by simp)]
        simp
theorem upk_err {ds : List (List Int)} {x : List Int} {k a : Nat} (h : (upk ds x k a).2 ≠ 0) : (upk ds x k a).1 = [] := by
  cases k with
  | zero =>
    unfold upk
    split <;> rfl
  | succ n' =>
    unfold upk at h ⊢
    split
    · rfl
    · rename_i h5
      rw [if_neg h5] at h
      split
      · rfl
      · rename_i h6
        rw [if_neg h6] at h
        simp at h
theorem upk_len {ds : List (List Int)} {x : List Int} : ∀ (k a : Nat), (upk ds x k a).1.length ≤ k
  | 0, a => by
    unfold upk
    split <;> simp
  | k + 1, a => by
    unfold upk
    split
    · simp
    · split
      · simp
      · have := upk_len (ds := ds) (x := x) k (fndM ds (x.drop a) a).2.1.toNat
        simp only [List.length_cons]
        omega
theorem runpack_eq {F : Nat} {l : List Int} {m n : Int} {b : List Int} (hF : 20000 ≤ F) (hb : U8s b) : M_R_HuffUnpack F l m b n = some (unpackM l m b n) := by
  unfold M_R_HuffUnpack unpackM M_R_HuffUnpack_j1 M_R_HuffUnpack_j7 M_R_HuffUnpack_j3
  rw [rcodes_eq hF]
  simp only [Option.bind_some]
  by_cases h1 : (codesM l).2 = 0
  · rw [if_pos (by simp [h1]), if_neg (show ¬ (codesM l).2 ≠ 0 by simp [h1]), bitsCheck_eq hF hb]
    simp only [Option.bind_some]
    by_cases h2 : chkOf m b = 0
    · obtain ⟨x, rfl, ob⟩ := chkOf_ok h2
      rw [if_pos (by simp [h2]), if_neg (show ¬ chkOf (x : Int) b ≠ 0 by simp [h2])]
      unfold M_R_between
      simp only [Option.bind_some]
      by_cases h3 : n < 0 ∨ 1000 < n
      · rw [if_pos (by simp; omega), if_pos h3, if_pos (by simp)]
      · rw [if_neg (by simp; omega), if_neg h3, if_neg (by simp [h2])]
        obtain ⟨n', rfl⟩ := Int.eq_ofNat_of_zero_le (show 0 ≤ n by omega)
        have hu := runp_l (F := F) (n := n') (l := l) (b := b) (m := x) hF hb h1 h2 (by omega) F 0 [] (by simp; omega) (Nat.zero_le _) (Nat.zero_le _)
        have hu' : M_R_HuffUnpack_l6 F l (x : Int) b (n' : Int) F ([], 0) = _ := hu
        rw [hu', Int.toNat_natCast, Int.toNat_natCast]
        simp only [List.length_nil, Nat.sub_zero, List.nil_append]
        by_cases h4 : (upk (dsl l) (bl b x) n' 0).2 = 0
        · rw [if_neg (by simp [h4])]
          congr 1
          rw [← h4]
        · rw [if_pos h4]
          have := upk_err h4
          congr 1
          rw [← this]
    · rw [if_neg (by simp [h2]), if_pos h2, if_neg (by simp), if_pos (by simpa using h2)]
  · rw [if_neg (by simp [h1]), if_pos h1, if_neg (by simp [h1]), if_neg (by simp), if_pos (by simpa using h1)]
theorem hlenM_len (many : List Int) : (hlenM many).1.length ≤ 64 := by
  by_cases h : (hlenM many).2 = 0
  · obtain ⟨hm, hl, _⟩ := hlenM_ok h
    rw [hl, oL_len]; exact hm.1
  · rw [(hlenM_bad h).1]; simp
theorem unpackM_len (l : List Int) (m : Int) (b : List Int) (n : Int) : (unpackM l m b n).1.length ≤ 1000 := by
  unfold unpackM
  split
  · simp
  · split
    · simp
    · split
      · simp
      · have := upk_len (ds := dsl l) (x := bl b m.toNat) n.toNat 0
        omega
end Go.Proofs.Ytilaklhajonenaa
