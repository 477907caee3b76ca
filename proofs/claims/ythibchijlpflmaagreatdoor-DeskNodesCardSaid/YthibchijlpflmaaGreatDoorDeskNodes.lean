/- The claim of DeskNodes. -/
import Derived.Test.YthibchijlpflmaaGreatDoorDeskNodesA
import Derived.Test.YthibchijlpflmaaGreatDoorDeskNodesJ
set_option maxRecDepth 100000
namespace Go.Proofs.YthibchijlpflmaaGreatDoor
open Go.ChangeShapes Go.WideShapes Go.ChangeAt Go.RowKit SX
theorem deskNodes_said : Rows.DeskNodesSaid :=
  OpenClaim.holds_of_cond 3 Tryz.f3 rfl rfl rfl rfl rfl rfl rfl ⟨rfl, rfl, rfl, rfl, rfl⟩ rfl rfl rfl rfl rfl (by kernel_rfl) Tryz.func3 deskNodes_closed
    (of_decide_eq_true (by kernel_rfl)) (by unfold Func.isWrapper; first | (rw [if_pos (by decide +kernel)]; kernel_rfl) | (rw [if_neg (by decide +kernel)]; exact ⟨rfl, rfl⟩))
    (fun os started H enc _ F => by rw [OpenClaim.pre_eq_preRow]; exact deskNodes_lifted os started H enc F)
theorem deskNodes_plain (f : FuncId) (fn : Func) (hf : Tryz.pinned.checked.prog.funcNamed "lampwright/lampwrightlaw.DeskNodes" = some f) (hfn : Tryz.pinned.checked.prog.funcs[f]? = some fn) :
    true = Tryz.pinned.checked.prog.looks [] ∧ ∀ (j : Nat) t, fn.params[j]? = some t → Tryz.pinned.checked.prog.wantsStandIn t = false := by
  obtain rfl : f = 3 := Option.some.inj ((show Tryz.prog.funcNamed "lampwright/lampwrightlaw.DeskNodes" = some 3 by kernel_rfl).symm.trans hf) |>.symm
  obtain rfl : fn = Tryz.f3 := (Option.some.inj (Tryz.func3.symm.trans hfn)).symm
  have hall : (Tryz.f3.params.toList.all fun t => !Tryz.prog.wantsStandIn t) = true := by kernel_rfl
  refine ⟨by kernel_rfl, fun j t ht => ?_⟩
  have h1 := List.all_eq_true.1 hall t (Array.mem_toList_iff.2 (Array.mem_of_getElem? ht))
  have h2 : Tryz.prog.wantsStandIn t = false := by simpa using h1
  exact h2
theorem deskNodes_holds : Rows.DeskNodesCardSaid :=
  Claim7.holds_tied_plain_at .later [] _ _ _ _ deskNodes_said (fun _ h => by cases h) (by kernel_rfl) (fun _ h => by cases h) deskNodes_row_tie rfl ⟨rfl, rfl⟩ (by kernel_rfl) rfl deskNodes_plain (by kernel_rfl)
end Go.Proofs.YthibchijlpflmaaGreatDoor
