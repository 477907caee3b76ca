/- The claim of DeskHow. -/
import Derived.Test.YthibchijlpflmaaGreatDoorDeskHowA
import Derived.Test.YthibchijlpflmaaGreatDoorDeskHowJ
set_option maxRecDepth 100000
namespace Go.Proofs.YthibchijlpflmaaGreatDoor
open Go.ChangeShapes Go.WideShapes Go.ChangeAt Go.RowKit SX
theorem deskHow_said : Rows.DeskHowSaid :=
  OpenClaim.holds_of_cond 9 Tryz.f9 rfl rfl rfl rfl rfl rfl rfl ⟨rfl, rfl, rfl, rfl, rfl⟩ rfl rfl rfl rfl rfl (by kernel_rfl) Tryz.func9 deskHow_closed
    (of_decide_eq_true (by kernel_rfl)) (by unfold Func.isWrapper; first | (rw [if_pos (by decide +kernel)]; kernel_rfl) | (rw [if_neg (by decide +kernel)]; exact ⟨rfl, rfl⟩))
    (fun os started H enc _ F => by rw [OpenClaim.pre_eq_preRow]; exact deskHow_lifted os started H enc F)
theorem deskHow_plain (f : FuncId) (fn : Func) (hf : Tryz.pinned.checked.prog.funcNamed "lampwright/lampwrightlaw.DeskHow" = some f) (hfn : Tryz.pinned.checked.prog.funcs[f]? = some fn) :
    true = Tryz.pinned.checked.prog.looks [] ∧ ∀ (j : Nat) t, fn.params[j]? = some t → Tryz.pinned.checked.prog.wantsStandIn t = false := by
  obtain rfl : f = 9 := Option.some.inj ((show Tryz.prog.funcNamed "lampwright/lampwrightlaw.DeskHow" = some 9 by kernel_rfl).symm.trans hf) |>.symm
  obtain rfl : fn = Tryz.f9 := (Option.some.inj (Tryz.func9.symm.trans hfn)).symm
  have hall : (Tryz.f9.params.toList.all fun t => !Tryz.prog.wantsStandIn t) = true := by kernel_rfl
  refine ⟨by kernel_rfl, fun j t ht => ?_⟩
  have h1 := List.all_eq_true.1 hall t (Array.mem_toList_iff.2 (Array.mem_of_getElem? ht))
  have h2 : Tryz.prog.wantsStandIn t = false := by simpa using h1
  exact h2
theorem deskHow_holds : Rows.DeskHowCardSaid :=
  Claim7.holds_tied_plain_at .later [] _ _ _ _ deskHow_said (fun _ h => by cases h) (by kernel_rfl) (fun _ h => by cases h) deskHow_row_tie rfl ⟨rfl, rfl⟩ (by kernel_rfl) rfl deskHow_plain (by kernel_rfl)
end Go.Proofs.YthibchijlpflmaaGreatDoor
