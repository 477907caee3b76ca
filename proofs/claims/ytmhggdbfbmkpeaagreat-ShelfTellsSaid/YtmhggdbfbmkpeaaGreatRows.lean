/-
  No cell of these rows narrows 'for every input' (looked for: loops, veiled, ifaces, maps, wideKeys, modest, calm, conditions, laid).
  DERIVED. THE GIVEN ROWS OF THIS SEAT. 5 by the template 'for every input the law returns true; each argument reads behind the call as it read before'; 0 by the template 'total and deterministic' (their statements: YtmhggdbfbmkpeaaGreatTotals.lean).
  GIVEN WITH THE SEED: the statements are not yours to turn. If you find one false, say at which input.
  Laid BY PROGRAM, IN A SANDBOX (cutbox-rows.mjs): the forced cells as the released guide's own fill.sh prints them over the translation 8209ea3b24ee40ea… (all of the seat's roots in one cut). By AI agents, Wed Nov 11 2026. No macro, syntax, notation, axiom, sorry.
-/
import Derived.Test.YtmhggdbfbmkpeaaGreatChecked
import GoSem.Claim
import GoSem.ClaimJoined
import GoSem.ClaimMapViews
import Derived.JoinedTies
import Derived.KernelRfl
namespace Go.Proofs.YtmhggdbfbmkpeaaGreat
/- THE CELL 'sum', in the pinned program and in every row, IS THE sha256 OF THE DUMP (.gsa) THAT YtmhggdbfbmkpeaaGreatProg.lean LOADS. Nothing in Lean hashes anything: it is a label: what it is worth is what the hold of that sum in a sandbox is worth. -/
noncomputable def Tryz.pinned : Pinned := { name := "ytmhggdbfbmkpeaagreat", sum := "8209ea3b24ee40ea988e1a910966f39604069a56c8dca4dd05deda64d74936c9", checked := Tryz.checked }
namespace Rows
def none {H : Type} : Left H := { results := [], args := [] }

/-- 'lampwrightlaw.ShelfTells': WHATEVER THE INPUT: true; the input reads as it did. -/
def shelfTellsSpec : ChangeSpec := { name := "shelfTells", fn := fun _ => fun
  | [d1, d2, d3, d4, d5] => { results := [.lit (.bool true)], args := [d1, d2, d3, d4, d5] }
  | _ => none }
def shelfTellsRow : OpenClaim := { program := "ytmhggdbfbmkpeaagreat", sum := "8209ea3b24ee40ea988e1a910966f39604069a56c8dca4dd05deda64d74936c9", func := "lampwright/lampwrightlaw.ShelfTells", spec := "shelfTells", unfollowed := true, recurses := true, plainKeys := false, apart := false }
def ShelfTellsSaid : Prop := shelfTellsRow.holds Tryz.pinned (OpenSpec.ofChange shelfTellsSpec)

/-- ITS FALSE NEIGHBOUR: 'it returns false'. Refute it at one input. -/
def shelfTellsWrong : ChangeSpec := { name := "shelfTells", fn := fun _ => fun
  | [d1, d2, d3, d4, d5] => { results := [.lit (.bool false)], args := [d1, d2, d3, d4, d5] }
  | _ => none }
def ShelfTellsWrongFalsely : Prop := shelfTellsRow.holds Tryz.pinned (OpenSpec.ofChange shelfTellsWrong)

/-- 'lampwrightlaw.ShelfList': WHATEVER THE INPUT: true; the input reads as it did. -/
def shelfListSpec : ChangeSpec := { name := "shelfList", fn := fun _ => fun
  | [d1, d2, d3, d4] => { results := [.lit (.bool true)], args := [d1, d2, d3, d4] }
  | _ => none }
def shelfListRow : OpenClaim := { program := "ytmhggdbfbmkpeaagreat", sum := "8209ea3b24ee40ea988e1a910966f39604069a56c8dca4dd05deda64d74936c9", func := "lampwright/lampwrightlaw.ShelfList", spec := "shelfList", unfollowed := true, recurses := true, plainKeys := false, apart := false }
def ShelfListSaid : Prop := shelfListRow.holds Tryz.pinned (OpenSpec.ofChange shelfListSpec)

/-- ITS FALSE NEIGHBOUR: 'it returns false'. Refute it at one input. -/
def shelfListWrong : ChangeSpec := { name := "shelfList", fn := fun _ => fun
  | [d1, d2, d3, d4] => { results := [.lit (.bool false)], args := [d1, d2, d3, d4] }
  | _ => none }
def ShelfListWrongFalsely : Prop := shelfListRow.holds Tryz.pinned (OpenSpec.ofChange shelfListWrong)

/-- 'lampwrightlaw.ShelfBack': WHATEVER THE INPUT: true; the input reads as it did. -/
def shelfBackSpec : ChangeSpec := { name := "shelfBack", fn := fun _ => fun
  | [d] => { results := [.lit (.bool true)], args := [d] }
  | _ => none }
def shelfBackRow : OpenClaim := { program := "ytmhggdbfbmkpeaagreat", sum := "8209ea3b24ee40ea988e1a910966f39604069a56c8dca4dd05deda64d74936c9", func := "lampwright/lampwrightlaw.ShelfBack", spec := "shelfBack", unfollowed := true, recurses := true, plainKeys := false, apart := false }
def ShelfBackSaid : Prop := shelfBackRow.holds Tryz.pinned (OpenSpec.ofChange shelfBackSpec)

/-- ITS FALSE NEIGHBOUR: 'it returns false'. Refute it at one input. -/
def shelfBackWrong : ChangeSpec := { name := "shelfBack", fn := fun _ => fun
  | [d] => { results := [.lit (.bool false)], args := [d] }
  | _ => none }
def ShelfBackWrongFalsely : Prop := shelfBackRow.holds Tryz.pinned (OpenSpec.ofChange shelfBackWrong)

/-- 'lampwrightlaw.ShelfNone': WHATEVER THE INPUT: true; the input reads as it did. -/
def shelfNoneSpec : ChangeSpec := { name := "shelfNone", fn := fun _ => fun
  | [d1, d2, d3] => { results := [.lit (.bool true)], args := [d1, d2, d3] }
  | _ => none }
def shelfNoneRow : OpenClaim := { program := "ytmhggdbfbmkpeaagreat", sum := "8209ea3b24ee40ea988e1a910966f39604069a56c8dca4dd05deda64d74936c9", func := "lampwright/lampwrightlaw.ShelfNone", spec := "shelfNone", unfollowed := true, recurses := true, plainKeys := false, apart := false }
def ShelfNoneSaid : Prop := shelfNoneRow.holds Tryz.pinned (OpenSpec.ofChange shelfNoneSpec)

/-- ITS FALSE NEIGHBOUR: 'it returns false'. Refute it at one input. -/
def shelfNoneWrong : ChangeSpec := { name := "shelfNone", fn := fun _ => fun
  | [d1, d2, d3] => { results := [.lit (.bool false)], args := [d1, d2, d3] }
  | _ => none }
def ShelfNoneWrongFalsely : Prop := shelfNoneRow.holds Tryz.pinned (OpenSpec.ofChange shelfNoneWrong)

/-- 'lampwrightlaw.ShelfLeads': WHATEVER THE INPUT: true; the input reads as it did. -/
def shelfLeadsSpec : ChangeSpec := { name := "shelfLeads", fn := fun _ => fun
  | [d1, d2, d3, d4] => { results := [.lit (.bool true)], args := [d1, d2, d3, d4] }
  | _ => none }
def shelfLeadsRow : OpenClaim := { program := "ytmhggdbfbmkpeaagreat", sum := "8209ea3b24ee40ea988e1a910966f39604069a56c8dca4dd05deda64d74936c9", func := "lampwright/lampwrightlaw.ShelfLeads", spec := "shelfLeads", unfollowed := true, recurses := true, plainKeys := false, apart := false }
def ShelfLeadsSaid : Prop := shelfLeadsRow.holds Tryz.pinned (OpenSpec.ofChange shelfLeadsSpec)

/-- ITS FALSE NEIGHBOUR: 'it returns false'. Refute it at one input. -/
def shelfLeadsWrong : ChangeSpec := { name := "shelfLeads", fn := fun _ => fun
  | [d1, d2, d3, d4] => { results := [.lit (.bool false)], args := [d1, d2, d3, d4] }
  | _ => none }
def ShelfLeadsWrongFalsely : Prop := shelfLeadsRow.holds Tryz.pinned (OpenSpec.ofChange shelfLeadsWrong)

/- THE SECOND FORM. 'bulk': how many values and letters a reading holds, each counted each time it is reached (what is shared counts as often as it is met; a slice's spare places count too). A statement '..UptoSaid' is the law's where the arguments, and the package variables that the reading takes, are together of bulk at most 1048576: NARROWER than '..Said'. Prove '..Said' where nothing that the law and all that it calls make is longer than what came in: it says more and counts as full. Else prove '..UptoSaid'. A law counts once. -/
mutual
def uptoBulk {H : Type} : DataW H → Nat
  | .lit (.string bytes) => bytes.length + 1
  | .lit _ => 1
  | .nil => 1
  | .ptr d => uptoBulk d + 1
  | .slice elems spare => uptoBulkAll elems + uptoBulkAll spare + 1
  | .agg parts => uptoBulkAll parts + 1
  | .iface _ d => uptoBulk d + 1
  | .map entries => uptoBulkEntries entries + 1
  | .held _ => 1
def uptoBulkAll {H : Type} : List (DataW H) → Nat
  | [] => 0
  | d :: r => uptoBulk d + uptoBulkAll r
def uptoBulkEntries {H : Type} : List (Lit × DataW H) → Nat
  | [] => 0
  | x :: r => uptoBulkEntry x + uptoBulkEntries r
def uptoBulkEntry {H : Type} : Lit × DataW H → Nat
  | (.string bytes, d) => bytes.length + uptoBulk d + 1
  | (_, d) => uptoBulk d + 1
 end
def uptoSmall : (H : Type) → List (DataW H) → Bool := fun _ ds => decide (uptoBulkAll ds ≤ 1048576)
def OpenSpec.upto (s : _root_.Go.ChangeSpec) : _root_.Go.OpenSpec := { _root_.Go.OpenSpec.ofChange s with cond := some uptoSmall }

/-- 'lampwrightlaw.ShelfTells', WHERE WHAT IT READS IS OF BULK AT MOST 1048576: true; the input reads as it did. -/
def shelfTellsUptoRow : OpenClaim := { program := "ytmhggdbfbmkpeaagreat", sum := "8209ea3b24ee40ea988e1a910966f39604069a56c8dca4dd05deda64d74936c9", func := "lampwright/lampwrightlaw.ShelfTells", spec := "shelfTells", unfollowed := true, recurses := true, plainKeys := false, apart := false, narrowed := true }
def ShelfTellsUptoSaid : Prop := shelfTellsUptoRow.holds Tryz.pinned (OpenSpec.upto shelfTellsSpec)

/-- 'lampwrightlaw.ShelfList', WHERE WHAT IT READS IS OF BULK AT MOST 1048576: true; the input reads as it did. -/
def shelfListUptoRow : OpenClaim := { program := "ytmhggdbfbmkpeaagreat", sum := "8209ea3b24ee40ea988e1a910966f39604069a56c8dca4dd05deda64d74936c9", func := "lampwright/lampwrightlaw.ShelfList", spec := "shelfList", unfollowed := true, recurses := true, plainKeys := false, apart := false, narrowed := true }
def ShelfListUptoSaid : Prop := shelfListUptoRow.holds Tryz.pinned (OpenSpec.upto shelfListSpec)

/-- 'lampwrightlaw.ShelfBack', WHERE WHAT IT READS IS OF BULK AT MOST 1048576: true; the input reads as it did. -/
def shelfBackUptoRow : OpenClaim := { program := "ytmhggdbfbmkpeaagreat", sum := "8209ea3b24ee40ea988e1a910966f39604069a56c8dca4dd05deda64d74936c9", func := "lampwright/lampwrightlaw.ShelfBack", spec := "shelfBack", unfollowed := true, recurses := true, plainKeys := false, apart := false, narrowed := true }
def ShelfBackUptoSaid : Prop := shelfBackUptoRow.holds Tryz.pinned (OpenSpec.upto shelfBackSpec)

/-- 'lampwrightlaw.ShelfNone', WHERE WHAT IT READS IS OF BULK AT MOST 1048576: true; the input reads as it did. -/
def shelfNoneUptoRow : OpenClaim := { program := "ytmhggdbfbmkpeaagreat", sum := "8209ea3b24ee40ea988e1a910966f39604069a56c8dca4dd05deda64d74936c9", func := "lampwright/lampwrightlaw.ShelfNone", spec := "shelfNone", unfollowed := true, recurses := true, plainKeys := false, apart := false, narrowed := true }
def ShelfNoneUptoSaid : Prop := shelfNoneUptoRow.holds Tryz.pinned (OpenSpec.upto shelfNoneSpec)

/-- 'lampwrightlaw.ShelfLeads', WHERE WHAT IT READS IS OF BULK AT MOST 1048576: true; the input reads as it did. -/
def shelfLeadsUptoRow : OpenClaim := { program := "ytmhggdbfbmkpeaagreat", sum := "8209ea3b24ee40ea988e1a910966f39604069a56c8dca4dd05deda64d74936c9", func := "lampwright/lampwrightlaw.ShelfLeads", spec := "shelfLeads", unfollowed := true, recurses := true, plainKeys := false, apart := false, narrowed := true }
def ShelfLeadsUptoSaid : Prop := shelfLeadsUptoRow.holds Tryz.pinned (OpenSpec.upto shelfLeadsSpec)

end Rows
end Go.Proofs.YtmhggdbfbmkpeaaGreat
