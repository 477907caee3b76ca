/- Proved: for every input whose bulk is at most 1048576 the law TextFault returns true, and what came in reads as it did. The named variables hold what the row says. -/
import Derived.Test.YtfjkpdlcdceenaaGreatDoorCards
import Derived.Test.YtfjkpdlcdceenaaGreatDoorTie
import Derived.Test.YtfjkpdlcdceenaaGreatDoorWalks3
import Derived.Test.YtfjkpdlcdceenaaGreatDoorPureText9
import Derived.ProofKit
import Derived.Deep.DeepHandedRow
import Derived.Deep.DeepWitnessRowRef
import Derived.Deep.DeepLaidRun
import Derived.Lib.LaidTab
import Derived.LaidSub
import Derived.ChangeMaps5
set_option maxRecDepth 100000
namespace Go.Proofs.YtfjkpdlcdceenaaGreatDoor
open Go.ChangeShapes Go.WideShapes Go.ChangeAt Go.RowKit SX
theorem gfLaid {W : World} {l : List (String × DataW Unit)} (hl : (l.filter fun x => x.1 == "internal/strconv.uint64pow10") = [("internal/strconv.uint64pow10", Lib.tabData .u64 Lib.pow10Tab)]) (h : laidMet Tryz.prog l W) : GF W := by
  have h2 := laidMet.filter (fun x => x.1 == "internal/strconv.uint64pow10") h
  rw [hl] at h2
  exact Lib.tabIs_of_head (P := Tryz.prog) (t := 130) (e := 102) (n := 20) (by kernel_rfl : Tryz.prog.globalNamed "internal/strconv.uint64pow10" = some 0) (by kernel_rfl) (by kernel_rfl) (by kernel_rfl) (by kernel_rfl) (by kernel_rfl) h2
theorem gfNec {W : World} (h : GF W) : Nec W [] GF := fun w1 hk => by
  exact gfKeep hk h
def litV : DataW Unit → Value
  | .lit (.int k n) => .int k n
  | _ => .nilIface
def numsV : DataW Unit → List Value
  | .agg l => l.map litV
  | _ => []
def pairsV : DataW Unit → List Value
  | .agg l => l.flatMap numsV
  | _ => []
noncomputable def low : Nat := (World.holding Tryz.prog default ⟨#[], #[], []⟩).heap.size
def lay (cs : List Value) : Obj → Obj
  | .cells _ t frozen => .cells cs.toArray t frozen
  | o => o
noncomputable def laidWorld (os : Os) : World :=
  let w0 := World.holding Tryz.prog os ⟨#[.cells #[.string { data := #[118, 97, 108, 117, 101, 32, 111, 117, 116, 32, 111, 102, 32, 114, 97, 110, 103, 101] }] 171, .cells #[.string { data := #[105, 110, 118, 97, 108, 105, 100, 32, 115, 121, 110, 116, 97, 120] }] 171], #[], []⟩
  { w0 with heap := (((((((w0.heap).modify 4 (lay (numsV Rows.laid_math_bits_deBruijn32tab))).modify 5 (lay (numsV Rows.laid_math_bits_deBruijn64tab))).modify 0 (lay (numsV Rows.laid_internal_strconv_uint64pow10))).modify 7 (lay (pairsV Rows.laid_unicode_utf8_acceptRanges))).modify 3 (lay [.iface 169 (.pointer (some ⟨low + 0, 0, none⟩))])).modify 2 (lay [.iface 169 (.pointer (some ⟨low + 1, 0, none⟩))])).modify 6 (lay (numsV Rows.laid_unicode_utf8_first)) }
theorem textFaultLaid (os : Os) (args : Array Value) : laidMet Tryz.prog Rows.textFaultUptoRow.laid ((laidWorld os).forCall (fun _ _ => 0) ⟨#[], args, []⟩).memory :=
  laidMet_of_run3 8 (by kernel_rfl) (by kernel_rfl) (by kernel_rfl)
theorem textFaultOwn : ownKnob Tryz.prog.godebug = none := by kernel_rfl
theorem textFaultLaidOut : laidOutB Tryz.prog = true := by kernel_rfl
theorem textFaultUpto_lifted (os : Os) (started : os.Started) (H : Type) (enc : TypeId × Value → H) (F : Stop.Interp) :
    ReturnsInHanded {} Tryz.checked os 6 .any ((Rows.OpenSpec.upto Rows.textFaultSpec).preRow enc Tryz.prog Tryz.f6 Rows.textFaultUptoRow.domain false Rows.textFaultUptoRow.laid) (((Rows.OpenSpec.upto Rows.textFaultSpec).at F).post enc Tryz.prog Tryz.f6 false true false false) := by
  have hx : ∃ ds places, DataW.whole enc Tryz.prog ((laidWorld os).forCall (fun _ _ => 0) ⟨#[], #[.string ⟨#[]⟩], []⟩).memory Tryz.f6.params.toList Rows.textFaultSpec.vars false (#[.string ⟨#[]⟩] : Array Value).toList 8 = some (ds, [], places) ∧ Rows.uptoSmall H (ds ++ []) = true := ⟨[.lit (.string [])], [], by kernel_rfl, by kernel_rfl⟩
  obtain ⟨ds, places, hx, hu⟩ := hx
  refine returnsInHanded_of_row (C := Tryz.checked) (s := Rows.OpenSpec.upto Rows.textFaultSpec) textFaultOwn started (by kernel_rfl) Tryz.func6
    (witness_row_atRef (enc := enc) (C := Tryz.checked) false (laidWorld os) #[.string ⟨#[]⟩] rfl (by kernel_rfl) (by kernel_rfl) (by kernel_rfl)
      (OpenSpec.preRow_of_cond 8 hx (by kernel_rfl) (fun k hk => by cases hk; exact hu) (by kernel_rfl) (textFaultLaid os _))) ?_
  clear hx hu ds places
  intro W base args ds gs before hval0 hW _ hcond hsz hL _ _
  have nG : Nec W [] GF := gfNec (gfLaid (l := Rows.textFaultUptoRow.laid) (by kernel_rfl) hL)
  have hval : ∀ (j : Nat) t v, Tryz.f6.params[j]? = some t → args[j]? = some v → Value.okWide Tryz.prog W .any base t v := hval0
  have hW' := hW
  obtain ⟨p, q, hA0, hV, rfl, _, _⟩ := hW
  have hA : DataW.TrodAll enc Tryz.prog W 0 (fun _ => true) true Tryz.f6.params.toList args.toList ds p := hA0
  rw [Tryz.params6] at hA hval
  obtain ⟨args⟩ := args
  obtain ⟨v0, r0, d0, s0, q0, z0, e0, rfl, rfl, h0, k0⟩ := trodAll_cons hA
  obtain ⟨e1, rfl, rfl⟩ := trodAll_nil k0
  subst e1
  obtain rfl : args = _ := e0
  obtain ⟨rfl, rfl⟩ := trodVars_none hV
  obtain ⟨t0, rfl, rfl, rfl, z0⟩ := Go.ChangeMaps.open_string Tryz.underlying9 (hval 0 9 v0 rfl rfl) h0
  have y0 : bstr (lB t0) = t0 := qai t0
  have b0 : ∀ y ∈ lB t0, 0 ≤ y ∧ y < 256 := qg9 t0
  have l0 : (lB t0).length ≤ 1048576 := by
    have q1 := of_decide_eq_true (hcond _ rfl)
    simp only [Rows.uptoBulkAll, Rows.uptoBulk, List.cons_append, List.nil_append] at q1
    rw [qgX]
    have q2 : t0.data.toList.length = t0.size := Array.length_toList
    omega
  generalize lB t0 = p0 at y0 b0 l0
  subst y0
  clear hA0 hval0
  refine (qbR (2000000) p0 true (qbP b0 (by omega) (by decide) (by omega)) W (Hp.start (qfg nG qgj))).mono ?_
  rintro e W' ⟨g, rfl, hr⟩
  exact ⟨_, rfl, qfc textFaultLaidOut (by kernel_rfl) rfl Tryz.underlying4 rfl hW' rfl hr.keep⟩
theorem textFaultUpto_said : Rows.TextFaultUptoSaid :=
  OpenClaim.holds_of_cond 6 Tryz.f6 rfl rfl rfl rfl rfl rfl rfl ⟨rfl, rfl, rfl, rfl, rfl⟩ rfl rfl rfl rfl rfl (by kernel_rfl) Tryz.func6 (by kernel_rfl)
    (of_decide_eq_true (by kernel_rfl)) (by unfold Func.isWrapper; first | (rw [if_pos (by decide +kernel)]; kernel_rfl) | (rw [if_neg (by decide +kernel)]; exact ⟨rfl, rfl⟩))
    (fun os started H enc _ F => by rw [OpenClaim.pre_eq_preRow]; exact textFaultUpto_lifted os started H enc F)
theorem textFaultUpto_plain (f : FuncId) (fn : Func) (hf : Tryz.pinned.checked.prog.funcNamed "lampwright/lampwrightlaw.TextFault" = some f) (hfn : Tryz.pinned.checked.prog.funcs[f]? = some fn) :
    true = Tryz.pinned.checked.prog.looks [] ∧ ∀ (j : Nat) t, fn.params[j]? = some t → Tryz.pinned.checked.prog.wantsStandIn t = false := by
  obtain rfl : f = 6 := Option.some.inj ((show Tryz.prog.funcNamed "lampwright/lampwrightlaw.TextFault" = some 6 by kernel_rfl).symm.trans hf) |>.symm
  obtain rfl : fn = Tryz.f6 := (Option.some.inj (Tryz.func6.symm.trans hfn)).symm
  have hall : (Tryz.f6.params.toList.all fun t => !Tryz.prog.wantsStandIn t) = true := by kernel_rfl
  refine ⟨by kernel_rfl, fun j t ht => ?_⟩
  have h1 := List.all_eq_true.1 hall t (Array.mem_toList_iff.2 (Array.mem_of_getElem? ht))
  have h2 : Tryz.prog.wantsStandIn t = false := by simpa using h1
  exact h2
theorem textFault_holds : Rows.TextFaultUptoCardSaid :=
  Claim7.holds_tied_plain_at .later [] _ _ _ _ textFaultUpto_said (fun _ h => by cases h) (by kernel_rfl) (fun _ h => by cases h) textFaultUpto_row_tie rfl ⟨rfl, rfl⟩ (by kernel_rfl) rfl textFaultUpto_plain (by kernel_rfl)
end Go.Proofs.YtfjkpdlcdceenaaGreatDoor
