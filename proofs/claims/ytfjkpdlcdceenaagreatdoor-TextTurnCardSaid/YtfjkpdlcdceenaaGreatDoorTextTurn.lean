/- Proved: for every input the law TextTurn returns true, and what came in reads as it did. The named variables hold what the row says. -/
import Derived.Test.YtfjkpdlcdceenaaGreatDoorCards
import Derived.Test.YtfjkpdlcdceenaaGreatDoorTie
import Derived.Test.YtfjkpdlcdceenaaGreatDoorWalks3
import Derived.Test.YtfjkpdlcdceenaaGreatDoorPureText10
import Derived.ProofKit
import Derived.Deep.DeepHandedRow
import Derived.Deep.DeepWitnessRowRef
import Derived.Deep.DeepLaidRun
import Derived.Lib.LaidTab
import Derived.LaidSub
import Derived.ChangeMaps5
set_option maxRecDepth 100000
namespace Go.Proofs.YtfjkpdlcdceenaaGreatDoor
open Go.ChangeShapes Go.WideShapes Go.ChangeAt Go.RowKit SX
theorem gfLaid {W : World} {l : List (String × DataW Unit)} (hl : (l.filter fun x => x.1 == "internal/strconv.uint64pow10") = [("internal/strconv.uint64pow10", Lib.tabData .u64 Lib.pow10Tab)]) (h : laidMet Tryz.prog l W) : GF W := by
  have h2 := laidMet.filter (fun x => x.1 == "internal/strconv.uint64pow10") h
  rw [hl] at h2
  exact Lib.tabIs_of_head (P := Tryz.prog) (t := 130) (e := 102) (n := 20) (by kernel_rfl : Tryz.prog.globalNamed "internal/strconv.uint64pow10" = some 0) (by kernel_rfl) (by kernel_rfl) (by kernel_rfl) (by kernel_rfl) (by kernel_rfl) h2
theorem gfNec {W : World} (h : GF W) : Nec W [] GF := fun w1 hk => by
  exact gfKeep hk h
def litV : DataW Unit → Value
  | .lit (.int k n) => .int k n
  | _ => .nilIface
def numsV : DataW Unit → List Value
  | .agg l => l.map litV
  | _ => []
def pairsV : DataW Unit → List Value
  | .agg l => l.flatMap numsV
  | _ => []
noncomputable def low : Nat := (World.holding Tryz.prog default ⟨#[], #[], []⟩).heap.size
def lay (cs : List Value) : Obj → Obj
  | .cells _ t frozen => .cells cs.toArray t frozen
  | o => o
noncomputable def laidWorld (os : Os) : World :=
  let w0 := World.holding Tryz.prog os ⟨#[.cells #[.string { data := #[118, 97, 108, 117, 101, 32, 111, 117, 116, 32, 111, 102, 32, 114, 97, 110, 103, 101] }] 171, .cells #[.string { data := #[105, 110, 118, 97, 108, 105, 100, 32, 115, 121, 110, 116, 97, 120] }] 171], #[], []⟩
  { w0 with heap := (((((((w0.heap).modify 4 (lay (numsV Rows.laid_math_bits_deBruijn32tab))).modify 5 (lay (numsV Rows.laid_math_bits_deBruijn64tab))).modify 0 (lay (numsV Rows.laid_internal_strconv_uint64pow10))).modify 7 (lay (pairsV Rows.laid_unicode_utf8_acceptRanges))).modify 3 (lay [.iface 169 (.pointer (some ⟨low + 0, 0, none⟩))])).modify 2 (lay [.iface 169 (.pointer (some ⟨low + 1, 0, none⟩))])).modify 6 (lay (numsV Rows.laid_unicode_utf8_first)) }
theorem textTurnLaid (os : Os) (args : Array Value) : laidMet Tryz.prog Rows.textTurnRow.laid ((laidWorld os).forCall (fun _ _ => 0) ⟨#[], args, []⟩).memory :=
  laidMet_of_run3 8 (by kernel_rfl) (by kernel_rfl) (by kernel_rfl)
theorem textTurnOwn : ownKnob Tryz.prog.godebug = none := by kernel_rfl
theorem textTurnLaidOut : laidOutB Tryz.prog = true := by kernel_rfl
theorem textTurn_lifted (os : Os) (started : os.Started) (H : Type) (enc : TypeId × Value → H) (F : Stop.Interp) :
    ReturnsInHanded {} Tryz.checked os 7 .any ((OpenSpec.ofChange Rows.textTurnSpec).preRow enc Tryz.prog Tryz.f7 Rows.textTurnRow.domain false Rows.textTurnRow.laid) (((OpenSpec.ofChange Rows.textTurnSpec).at F).post enc Tryz.prog Tryz.f7 false true false false) := by
  have hx : ∃ ds places, DataW.whole enc Tryz.prog ((laidWorld os).forCall (fun _ _ => 0) ⟨#[], #[.agg #[.slice none 0 0], .int .i64 0], []⟩).memory Tryz.f7.params.toList Rows.textTurnSpec.vars false (#[.agg #[.slice none 0 0], .int .i64 0] : Array Value).toList 8 = some (ds, [], places) := ⟨[.agg [.nil], .lit (.int .i64 0)], [], by kernel_rfl⟩
  obtain ⟨ds, places, hx⟩ := hx
  refine returnsInHanded_of_row (C := Tryz.checked) (s := OpenSpec.ofChange Rows.textTurnSpec) textTurnOwn started (by kernel_rfl) Tryz.func7
    (witness_row_atRef (enc := enc) (C := Tryz.checked) false (laidWorld os) #[.agg #[.slice none 0 0], .int .i64 0] rfl (by kernel_rfl) (by kernel_rfl) (by kernel_rfl)
      (OpenSpec.preRow_of_cond 8 hx (by kernel_rfl) (fun k hk => by cases hk) (by kernel_rfl) (textTurnLaid os _))) ?_
  clear hx ds places
  intro W base args ds gs before hval0 hW _ hcond hsz hL _ _
  have nG : Nec W [] GF := gfNec (gfLaid (l := Rows.textTurnRow.laid) (by kernel_rfl) hL)
  have hval : ∀ (j : Nat) t v, Tryz.f7.params[j]? = some t → args[j]? = some v → Value.okWide Tryz.prog W .any base t v := hval0
  have hW' := hW
  obtain ⟨p, q, hA0, hV, rfl, _, _⟩ := hW
  have hA : DataW.TrodAll enc Tryz.prog W 0 (fun _ => true) true Tryz.f7.params.toList args.toList ds p := hA0
  rw [Tryz.params7] at hA hval
  obtain ⟨args⟩ := args
  obtain ⟨v0, r0, d0, s0, q0, z0, e0, rfl, rfl, h0, k0⟩ := trodAll_cons hA
  obtain ⟨v1, r1, d1, s1, q1, z1, e1, rfl, rfl, h1, k1⟩ := trodAll_cons k0
  obtain ⟨e2, rfl, rfl⟩ := trodAll_nil k1
  subst e2
  subst e1
  obtain rfl : args = _ := e0
  obtain ⟨rfl, rfl⟩ := trodVars_none hV
  have o0 := hval 0 24 v0 rfl rfl
  obtain ⟨cs0, rfl, hz0⟩ := okWide_struct Tryz.underlying24 o0
  obtain ⟨z0_0, rfl⟩ := arr1 (hz0.trans (by kernel_rfl))
  obtain ⟨fu0, t0⟩ := h0
  obtain ⟨_, _, t0_0⟩ := qeT (cs := [z0_0]) (cs' := [z0_0]) Tryz.underlying24 (i := 0) rfl (k := 1) (by kernel_rfl) rfl t0
  have lf0 := qfl Tryz.underlying24 (ts := [22]) (by kernel_rfl) o0
  obtain ⟨a0_0, c0_0, p0_0, s0_0, rfl, n0_0, w0_0, l0_00⟩ := qeE (en := eN66) (inn := iN66) zi (fun _ => rfl) (fun _ => rfl) Tryz.underlying22 Tryz.underlying66 Tryz.underlying3 (by kernel_rfl) (by kernel_rfl) (lf0 0 _ 22 (by decide) rfl rfl) t0_0
  have b0_0 := fun l hl y hy => qcQ ((w0_0 l hl).1 y hy)
  have l0_0 : p0_0.length ≤ 9223372036854775807 := l0_00
  have ll0_0 : ∀ l ∈ p0_0, l.length ≤ 9223372036854775807 := fun l hl => (w0_0 l hl).2
  obtain ⟨p1, rfl, rfl, rfl, w1⟩ := open_int Tryz.underlying3 (hval 1 3 v1 rfl rfl) h1
  have b1 := qcQ w1
  clear hA0 hval0
  refine (qc6 (2000000) p0_0 a0_0 (c0_0, s0_0) p1 true (qcE (by decide)) W (Hp.start (qd8 n0_0 (qd8 nG qg9)))).mono ?_
  rintro e W' ⟨g, rfl, hr⟩
  exact ⟨_, rfl, qfZ textTurnLaidOut (by kernel_rfl) rfl Tryz.underlying4 rfl hW' rfl hr.keep⟩
theorem textTurn_said : Rows.TextTurnSaid :=
  OpenClaim.holds_of_cond 7 Tryz.f7 rfl rfl rfl rfl rfl rfl rfl ⟨rfl, rfl, rfl, rfl, rfl⟩ rfl rfl rfl rfl rfl (by kernel_rfl) Tryz.func7 (by kernel_rfl)
    (of_decide_eq_true (by kernel_rfl)) (by unfold Func.isWrapper; first | (rw [if_pos (by decide +kernel)]; kernel_rfl) | (rw [if_neg (by decide +kernel)]; exact ⟨rfl, rfl⟩))
    (fun os started H enc _ F => by rw [OpenClaim.pre_eq_preRow]; exact textTurn_lifted os started H enc F)
theorem textTurn_plain (f : FuncId) (fn : Func) (hf : Tryz.pinned.checked.prog.funcNamed "lampwright/lampwrightlaw.TextTurn" = some f) (hfn : Tryz.pinned.checked.prog.funcs[f]? = some fn) :
    true = Tryz.pinned.checked.prog.looks [] ∧ ∀ (j : Nat) t, fn.params[j]? = some t → Tryz.pinned.checked.prog.wantsStandIn t = false := by
  obtain rfl : f = 7 := Option.some.inj ((show Tryz.prog.funcNamed "lampwright/lampwrightlaw.TextTurn" = some 7 by kernel_rfl).symm.trans hf) |>.symm
  obtain rfl : fn = Tryz.f7 := (Option.some.inj (Tryz.func7.symm.trans hfn)).symm
  have hall : (Tryz.f7.params.toList.all fun t => !Tryz.prog.wantsStandIn t) = true := by kernel_rfl
  refine ⟨by kernel_rfl, fun j t ht => ?_⟩
  have h1 := List.all_eq_true.1 hall t (Array.mem_toList_iff.2 (Array.mem_of_getElem? ht))
  have h2 : Tryz.prog.wantsStandIn t = false := by simpa using h1
  exact h2
theorem textTurn_holds : Rows.TextTurnCardSaid :=
  Claim7.holds_tied_plain_at .later [] _ _ _ _ textTurn_said (fun _ h => by cases h) (by kernel_rfl) (fun _ h => by cases h) textTurn_row_tie rfl ⟨rfl, rfl⟩ (by kernel_rfl) rfl textTurn_plain (by kernel_rfl)
end Go.Proofs.YtfjkpdlcdceenaaGreatDoor
