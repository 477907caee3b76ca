/-
  No cell of these rows narrows 'for every input' (looked for: loops, veiled, ifaces, maps, wideKeys, modest, calm, conditions, laid).
  DERIVED. THE GIVEN ROWS OF THIS SEAT. 7 by the template 'for every input the law returns true; each argument reads behind the call as it read before'; 0 by the template 'total and deterministic' (their statements: YtlioijpkhffbnaaGreatTotals.lean).
  GIVEN WITH THE SEED: the statements are not yours to turn. If you find one false, say at which input.
  Laid BY PROGRAM, IN A SANDBOX (cutbox-rows.mjs): the forced cells as the released guide's own fill.sh prints them over the translation 2ca5f85b4fc1c8d8… (all of the seat's roots in one cut). By AI agents, Wed Nov 11 2026. No macro, syntax, notation, axiom, sorry.
-/
import Derived.Test.YtlioijpkhffbnaaGreatChecked
import GoSem.Claim
import GoSem.ClaimJoined
import GoSem.ClaimMapViews
import Derived.JoinedTies
import Derived.KernelRfl
namespace Go.Proofs.YtlioijpkhffbnaaGreat
/- THE CELL 'sum', in the pinned program and in every row, IS THE sha256 OF THE DUMP (.gsa) THAT YtlioijpkhffbnaaGreatProg.lean LOADS. Nothing in Lean hashes anything: it is a label: what it is worth is what the hold of that sum in a sandbox is worth. -/
noncomputable def Tryz.pinned : Pinned := { name := "ytlioijpkhffbnaagreat", sum := "2ca5f85b4fc1c8d8a848af953c86e619b6d2cdf629de04989ee2ca8501d77bbc", checked := Tryz.checked }
namespace Rows
def none {H : Type} : Left H := { results := [], args := [] }

/-- 'lampwrightlaw.LoadTells': WHATEVER THE INPUT: true; the input reads as it did. -/
def loadTellsSpec : ChangeSpec := { name := "loadTells", fn := fun _ => fun
  | [d1, d2, d3, d4, d5] => { results := [.lit (.bool true)], args := [d1, d2, d3, d4, d5] }
  | _ => none }
def loadTellsRow : OpenClaim := { program := "ytlioijpkhffbnaagreat", sum := "2ca5f85b4fc1c8d8a848af953c86e619b6d2cdf629de04989ee2ca8501d77bbc", func := "lampwright/lampwrightlaw.LoadTells", spec := "loadTells", unfollowed := true, recurses := true, apart := false }
def LoadTellsSaid : Prop := loadTellsRow.holds Tryz.pinned (OpenSpec.ofChange loadTellsSpec)

/-- ITS FALSE NEIGHBOUR: 'it returns false'. Refute it at one input. -/
def loadTellsWrong : ChangeSpec := { name := "loadTells", fn := fun _ => fun
  | [d1, d2, d3, d4, d5] => { results := [.lit (.bool false)], args := [d1, d2, d3, d4, d5] }
  | _ => none }
def LoadTellsWrongFalsely : Prop := loadTellsRow.holds Tryz.pinned (OpenSpec.ofChange loadTellsWrong)

/-- 'lampwrightlaw.LoadBack': WHATEVER THE INPUT: true; the input reads as it did. -/
def loadBackSpec : ChangeSpec := { name := "loadBack", fn := fun _ => fun
  | [d1, d2, d3] => { results := [.lit (.bool true)], args := [d1, d2, d3] }
  | _ => none }
def loadBackRow : OpenClaim := { program := "ytlioijpkhffbnaagreat", sum := "2ca5f85b4fc1c8d8a848af953c86e619b6d2cdf629de04989ee2ca8501d77bbc", func := "lampwright/lampwrightlaw.LoadBack", spec := "loadBack", unfollowed := true, recurses := true, apart := false }
def LoadBackSaid : Prop := loadBackRow.holds Tryz.pinned (OpenSpec.ofChange loadBackSpec)

/-- ITS FALSE NEIGHBOUR: 'it returns false'. Refute it at one input. -/
def loadBackWrong : ChangeSpec := { name := "loadBack", fn := fun _ => fun
  | [d1, d2, d3] => { results := [.lit (.bool false)], args := [d1, d2, d3] }
  | _ => none }
def LoadBackWrongFalsely : Prop := loadBackRow.holds Tryz.pinned (OpenSpec.ofChange loadBackWrong)

/-- 'lampwrightlaw.LoadOnly': WHATEVER THE INPUT: true; the input reads as it did. -/
def loadOnlySpec : ChangeSpec := { name := "loadOnly", fn := fun _ => fun
  | [d1, d2] => { results := [.lit (.bool true)], args := [d1, d2] }
  | _ => none }
def loadOnlyRow : OpenClaim := { program := "ytlioijpkhffbnaagreat", sum := "2ca5f85b4fc1c8d8a848af953c86e619b6d2cdf629de04989ee2ca8501d77bbc", func := "lampwright/lampwrightlaw.LoadOnly", spec := "loadOnly", unfollowed := true, recurses := true, apart := false }
def LoadOnlySaid : Prop := loadOnlyRow.holds Tryz.pinned (OpenSpec.ofChange loadOnlySpec)

/-- ITS FALSE NEIGHBOUR: 'it returns false'. Refute it at one input. -/
def loadOnlyWrong : ChangeSpec := { name := "loadOnly", fn := fun _ => fun
  | [d1, d2] => { results := [.lit (.bool false)], args := [d1, d2] }
  | _ => none }
def LoadOnlyWrongFalsely : Prop := loadOnlyRow.holds Tryz.pinned (OpenSpec.ofChange loadOnlyWrong)

/-- 'lampwrightlaw.LoadQuota': WHATEVER THE INPUT: true; the input reads as it did. -/
def loadQuotaSpec : ChangeSpec := { name := "loadQuota", fn := fun _ => fun
  | [d1, d2, d3, d4, d5, d6] => { results := [.lit (.bool true)], args := [d1, d2, d3, d4, d5, d6] }
  | _ => none }
def loadQuotaRow : OpenClaim := { program := "ytlioijpkhffbnaagreat", sum := "2ca5f85b4fc1c8d8a848af953c86e619b6d2cdf629de04989ee2ca8501d77bbc", func := "lampwright/lampwrightlaw.LoadQuota", spec := "loadQuota", unfollowed := true, recurses := true, apart := false }
def LoadQuotaSaid : Prop := loadQuotaRow.holds Tryz.pinned (OpenSpec.ofChange loadQuotaSpec)

/-- ITS FALSE NEIGHBOUR: 'it returns false'. Refute it at one input. -/
def loadQuotaWrong : ChangeSpec := { name := "loadQuota", fn := fun _ => fun
  | [d1, d2, d3, d4, d5, d6] => { results := [.lit (.bool false)], args := [d1, d2, d3, d4, d5, d6] }
  | _ => none }
def LoadQuotaWrongFalsely : Prop := loadQuotaRow.holds Tryz.pinned (OpenSpec.ofChange loadQuotaWrong)

/-- 'lampwrightlaw.LoadCut': WHATEVER THE INPUT: true; the input reads as it did. -/
def loadCutSpec : ChangeSpec := { name := "loadCut", fn := fun _ => fun
  | [d1, d2, d3] => { results := [.lit (.bool true)], args := [d1, d2, d3] }
  | _ => none }
def loadCutRow : OpenClaim := { program := "ytlioijpkhffbnaagreat", sum := "2ca5f85b4fc1c8d8a848af953c86e619b6d2cdf629de04989ee2ca8501d77bbc", func := "lampwright/lampwrightlaw.LoadCut", spec := "loadCut", unfollowed := true, recurses := true, apart := false }
def LoadCutSaid : Prop := loadCutRow.holds Tryz.pinned (OpenSpec.ofChange loadCutSpec)

/-- ITS FALSE NEIGHBOUR: 'it returns false'. Refute it at one input. -/
def loadCutWrong : ChangeSpec := { name := "loadCut", fn := fun _ => fun
  | [d1, d2, d3] => { results := [.lit (.bool false)], args := [d1, d2, d3] }
  | _ => none }
def LoadCutWrongFalsely : Prop := loadCutRow.holds Tryz.pinned (OpenSpec.ofChange loadCutWrong)

/-- 'lampwrightlaw.LoadKinds': WHATEVER THE INPUT: true; the input reads as it did. -/
def loadKindsSpec : ChangeSpec := { name := "loadKinds", fn := fun _ => fun
  | [d1, d2, d3] => { results := [.lit (.bool true)], args := [d1, d2, d3] }
  | _ => none }
def loadKindsRow : OpenClaim := { program := "ytlioijpkhffbnaagreat", sum := "2ca5f85b4fc1c8d8a848af953c86e619b6d2cdf629de04989ee2ca8501d77bbc", func := "lampwright/lampwrightlaw.LoadKinds", spec := "loadKinds", unfollowed := true, recurses := true, apart := false }
def LoadKindsSaid : Prop := loadKindsRow.holds Tryz.pinned (OpenSpec.ofChange loadKindsSpec)

/-- ITS FALSE NEIGHBOUR: 'it returns false'. Refute it at one input. -/
def loadKindsWrong : ChangeSpec := { name := "loadKinds", fn := fun _ => fun
  | [d1, d2, d3] => { results := [.lit (.bool false)], args := [d1, d2, d3] }
  | _ => none }
def LoadKindsWrongFalsely : Prop := loadKindsRow.holds Tryz.pinned (OpenSpec.ofChange loadKindsWrong)

/-- 'lampwrightlaw.LoadPlain': WHATEVER THE INPUT: true; the input reads as it did. -/
def loadPlainSpec : ChangeSpec := { name := "loadPlain", fn := fun _ => fun
  | [d1, d2] => { results := [.lit (.bool true)], args := [d1, d2] }
  | _ => none }
def loadPlainRow : OpenClaim := { program := "ytlioijpkhffbnaagreat", sum := "2ca5f85b4fc1c8d8a848af953c86e619b6d2cdf629de04989ee2ca8501d77bbc", func := "lampwright/lampwrightlaw.LoadPlain", spec := "loadPlain", unfollowed := true, recurses := true, apart := false }
def LoadPlainSaid : Prop := loadPlainRow.holds Tryz.pinned (OpenSpec.ofChange loadPlainSpec)

/-- ITS FALSE NEIGHBOUR: 'it returns false'. Refute it at one input. -/
def loadPlainWrong : ChangeSpec := { name := "loadPlain", fn := fun _ => fun
  | [d1, d2] => { results := [.lit (.bool false)], args := [d1, d2] }
  | _ => none }
def LoadPlainWrongFalsely : Prop := loadPlainRow.holds Tryz.pinned (OpenSpec.ofChange loadPlainWrong)

/- THE SECOND FORM. 'bulk': how many values and letters a reading holds, each counted each time it is reached (what is shared counts as often as it is met; a slice's spare places count too). A statement '..UptoSaid' is the law's where the arguments, and the package variables that the reading takes, are together of bulk at most 1048576: NARROWER than '..Said'. Prove '..Said' where nothing that the law and all that it calls make is longer than what came in: it says more and counts as full. Else prove '..UptoSaid'. A law counts once. -/
mutual
def uptoBulk {H : Type} : DataW H → Nat
  | .lit (.string bytes) => bytes.length + 1
  | .lit _ => 1
  | .nil => 1
  | .ptr d => uptoBulk d + 1
  | .slice elems spare => uptoBulkAll elems + uptoBulkAll spare + 1
  | .agg parts => uptoBulkAll parts + 1
  | .iface _ d => uptoBulk d + 1
  | .map entries => uptoBulkEntries entries + 1
  | .held _ => 1
def uptoBulkAll {H : Type} : List (DataW H) → Nat
  | [] => 0
  | d :: r => uptoBulk d + uptoBulkAll r
def uptoBulkEntries {H : Type} : List (Lit × DataW H) → Nat
  | [] => 0
  | x :: r => uptoBulkEntry x + uptoBulkEntries r
def uptoBulkEntry {H : Type} : Lit × DataW H → Nat
  | (.string bytes, d) => bytes.length + uptoBulk d + 1
  | (_, d) => uptoBulk d + 1
 end
def uptoSmall : (H : Type) → List (DataW H) → Bool := fun _ ds => decide (uptoBulkAll ds ≤ 1048576)
def OpenSpec.upto (s : _root_.Go.ChangeSpec) : _root_.Go.OpenSpec := { _root_.Go.OpenSpec.ofChange s with cond := some uptoSmall }

/-- 'lampwrightlaw.LoadTells', WHERE WHAT IT READS IS OF BULK AT MOST 1048576: true; the input reads as it did. -/
def loadTellsUptoRow : OpenClaim := { program := "ytlioijpkhffbnaagreat", sum := "2ca5f85b4fc1c8d8a848af953c86e619b6d2cdf629de04989ee2ca8501d77bbc", func := "lampwright/lampwrightlaw.LoadTells", spec := "loadTells", unfollowed := true, recurses := true, apart := false, narrowed := true }
def LoadTellsUptoSaid : Prop := loadTellsUptoRow.holds Tryz.pinned (OpenSpec.upto loadTellsSpec)

/-- 'lampwrightlaw.LoadBack', WHERE WHAT IT READS IS OF BULK AT MOST 1048576: true; the input reads as it did. -/
def loadBackUptoRow : OpenClaim := { program := "ytlioijpkhffbnaagreat", sum := "2ca5f85b4fc1c8d8a848af953c86e619b6d2cdf629de04989ee2ca8501d77bbc", func := "lampwright/lampwrightlaw.LoadBack", spec := "loadBack", unfollowed := true, recurses := true, apart := false, narrowed := true }
def LoadBackUptoSaid : Prop := loadBackUptoRow.holds Tryz.pinned (OpenSpec.upto loadBackSpec)

/-- 'lampwrightlaw.LoadOnly', WHERE WHAT IT READS IS OF BULK AT MOST 1048576: true; the input reads as it did. -/
def loadOnlyUptoRow : OpenClaim := { program := "ytlioijpkhffbnaagreat", sum := "2ca5f85b4fc1c8d8a848af953c86e619b6d2cdf629de04989ee2ca8501d77bbc", func := "lampwright/lampwrightlaw.LoadOnly", spec := "loadOnly", unfollowed := true, recurses := true, apart := false, narrowed := true }
def LoadOnlyUptoSaid : Prop := loadOnlyUptoRow.holds Tryz.pinned (OpenSpec.upto loadOnlySpec)

/-- 'lampwrightlaw.LoadQuota', WHERE WHAT IT READS IS OF BULK AT MOST 1048576: true; the input reads as it did. -/
def loadQuotaUptoRow : OpenClaim := { program := "ytlioijpkhffbnaagreat", sum := "2ca5f85b4fc1c8d8a848af953c86e619b6d2cdf629de04989ee2ca8501d77bbc", func := "lampwright/lampwrightlaw.LoadQuota", spec := "loadQuota", unfollowed := true, recurses := true, apart := false, narrowed := true }
def LoadQuotaUptoSaid : Prop := loadQuotaUptoRow.holds Tryz.pinned (OpenSpec.upto loadQuotaSpec)

/-- 'lampwrightlaw.LoadCut', WHERE WHAT IT READS IS OF BULK AT MOST 1048576: true; the input reads as it did. -/
def loadCutUptoRow : OpenClaim := { program := "ytlioijpkhffbnaagreat", sum := "2ca5f85b4fc1c8d8a848af953c86e619b6d2cdf629de04989ee2ca8501d77bbc", func := "lampwright/lampwrightlaw.LoadCut", spec := "loadCut", unfollowed := true, recurses := true, apart := false, narrowed := true }
def LoadCutUptoSaid : Prop := loadCutUptoRow.holds Tryz.pinned (OpenSpec.upto loadCutSpec)

/-- 'lampwrightlaw.LoadKinds', WHERE WHAT IT READS IS OF BULK AT MOST 1048576: true; the input reads as it did. -/
def loadKindsUptoRow : OpenClaim := { program := "ytlioijpkhffbnaagreat", sum := "2ca5f85b4fc1c8d8a848af953c86e619b6d2cdf629de04989ee2ca8501d77bbc", func := "lampwright/lampwrightlaw.LoadKinds", spec := "loadKinds", unfollowed := true, recurses := true, apart := false, narrowed := true }
def LoadKindsUptoSaid : Prop := loadKindsUptoRow.holds Tryz.pinned (OpenSpec.upto loadKindsSpec)

/-- 'lampwrightlaw.LoadPlain', WHERE WHAT IT READS IS OF BULK AT MOST 1048576: true; the input reads as it did. -/
def loadPlainUptoRow : OpenClaim := { program := "ytlioijpkhffbnaagreat", sum := "2ca5f85b4fc1c8d8a848af953c86e619b6d2cdf629de04989ee2ca8501d77bbc", func := "lampwright/lampwrightlaw.LoadPlain", spec := "loadPlain", unfollowed := true, recurses := true, apart := false, narrowed := true }
def LoadPlainUptoSaid : Prop := loadPlainUptoRow.holds Tryz.pinned (OpenSpec.upto loadPlainSpec)

end Rows
end Go.Proofs.YtlioijpkhffbnaaGreat
