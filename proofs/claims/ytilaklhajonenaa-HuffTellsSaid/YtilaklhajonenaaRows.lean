/-
  No cell of these rows narrows 'for every input' (looked for: loops, veiled, ifaces, maps, wideKeys, modest, calm, conditions, laid).
  DERIVED. THE GIVEN ROWS OF THIS SEAT. 8 by the template 'for every input the law returns true; each argument reads behind the call as it read before'; 0 by the template 'total and deterministic' (their statements: YtilaklhajonenaaTotals.lean).
  GIVEN WITH THE SEED: the statements are not yours to turn. If you find one false, say at which input.
  Laid BY PROGRAM, IN A SANDBOX (cutbox-rows.mjs): the forced cells as the released guide's own fill.sh prints them over the translation fa398a9ea7de8d25… (all of the seat's roots in one cut). By AI agents, Wed Nov 11 2026. No macro, syntax, notation, axiom, sorry.
-/
import Derived.Test.YtilaklhajonenaaChecked
import GoSem.Claim
import GoSem.ClaimJoined
import GoSem.ClaimMapViews
import Derived.JoinedTies
import Derived.KernelRfl
namespace Go.Proofs.Ytilaklhajonenaa
/- THE CELL 'sum', in the pinned program and in every row, IS THE sha256 OF THE DUMP (.gsa) THAT YtilaklhajonenaaProg.lean LOADS. Nothing in Lean hashes anything: it is a label: what it is worth is what the hold of that sum in a sandbox is worth. -/
noncomputable def Try.pinned : Pinned := { name := "ytilaklhajonenaa", sum := "fa398a9ea7de8d252ce2f97684d8c1b31d2ff3c90a13efe49603b30591befaf2", checked := Try.checked }
namespace Rows
def none {H : Type} : Left H := { results := [], args := [] }

/-- 'lampwrightlaw.HuffTells': WHATEVER THE INPUT: true; the input reads as it did. -/
def huffTellsSpec : ChangeSpec := { name := "huffTells", fn := fun _ => fun
  | [d1, d2, d3, d4, d5, d6] => { results := [.lit (.bool true)], args := [d1, d2, d3, d4, d5, d6] }
  | _ => none }
def huffTellsRow : OpenClaim := { program := "ytilaklhajonenaa", sum := "fa398a9ea7de8d252ce2f97684d8c1b31d2ff3c90a13efe49603b30591befaf2", func := "lampwright/lampwrightlaw.HuffTells", spec := "huffTells", inPlace := ["slices.overlaps[lampwright/huff.group]"], unfollowed := true, recurses := true, apart := false }
def HuffTellsSaid : Prop := huffTellsRow.holds Try.pinned (OpenSpec.ofChange huffTellsSpec)

/-- ITS FALSE NEIGHBOUR: 'it returns false'. Refute it at one input. -/
def huffTellsWrong : ChangeSpec := { name := "huffTells", fn := fun _ => fun
  | [d1, d2, d3, d4, d5, d6] => { results := [.lit (.bool false)], args := [d1, d2, d3, d4, d5, d6] }
  | _ => none }
def HuffTellsWrongFalsely : Prop := huffTellsRow.holds Try.pinned (OpenSpec.ofChange huffTellsWrong)

/-- 'lampwrightlaw.HuffBack': WHATEVER THE INPUT: true; the input reads as it did. -/
def huffBackSpec : ChangeSpec := { name := "huffBack", fn := fun _ => fun
  | [d1, d2] => { results := [.lit (.bool true)], args := [d1, d2] }
  | _ => none }
def huffBackRow : OpenClaim := { program := "ytilaklhajonenaa", sum := "fa398a9ea7de8d252ce2f97684d8c1b31d2ff3c90a13efe49603b30591befaf2", func := "lampwright/lampwrightlaw.HuffBack", spec := "huffBack", inPlace := ["slices.overlaps[lampwright/huff.group]"], unfollowed := true, recurses := true, apart := false }
def HuffBackSaid : Prop := huffBackRow.holds Try.pinned (OpenSpec.ofChange huffBackSpec)

/-- ITS FALSE NEIGHBOUR: 'it returns false'. Refute it at one input. -/
def huffBackWrong : ChangeSpec := { name := "huffBack", fn := fun _ => fun
  | [d1, d2] => { results := [.lit (.bool false)], args := [d1, d2] }
  | _ => none }
def HuffBackWrongFalsely : Prop := huffBackRow.holds Try.pinned (OpenSpec.ofChange huffBackWrong)

/-- 'lampwrightlaw.HuffOften': WHATEVER THE INPUT: true; the input reads as it did. -/
def huffOftenSpec : ChangeSpec := { name := "huffOften", fn := fun _ => fun
  | [d1, d2, d3] => { results := [.lit (.bool true)], args := [d1, d2, d3] }
  | _ => none }
def huffOftenRow : OpenClaim := { program := "ytilaklhajonenaa", sum := "fa398a9ea7de8d252ce2f97684d8c1b31d2ff3c90a13efe49603b30591befaf2", func := "lampwright/lampwrightlaw.HuffOften", spec := "huffOften", inPlace := ["slices.overlaps[lampwright/huff.group]"], unfollowed := true, recurses := true, apart := false }
def HuffOftenSaid : Prop := huffOftenRow.holds Try.pinned (OpenSpec.ofChange huffOftenSpec)

/-- ITS FALSE NEIGHBOUR: 'it returns false'. Refute it at one input. -/
def huffOftenWrong : ChangeSpec := { name := "huffOften", fn := fun _ => fun
  | [d1, d2, d3] => { results := [.lit (.bool false)], args := [d1, d2, d3] }
  | _ => none }
def HuffOftenWrongFalsely : Prop := huffOftenRow.holds Try.pinned (OpenSpec.ofChange huffOftenWrong)

/-- 'lampwrightlaw.HuffTimes': WHATEVER THE INPUT: true; the input reads as it did. -/
def huffTimesSpec : ChangeSpec := { name := "huffTimes", fn := fun _ => fun
  | [d1, d2] => { results := [.lit (.bool true)], args := [d1, d2] }
  | _ => none }
def huffTimesRow : OpenClaim := { program := "ytilaklhajonenaa", sum := "fa398a9ea7de8d252ce2f97684d8c1b31d2ff3c90a13efe49603b30591befaf2", func := "lampwright/lampwrightlaw.HuffTimes", spec := "huffTimes", inPlace := ["slices.overlaps[lampwright/huff.group]"], unfollowed := true, recurses := true, apart := false }
def HuffTimesSaid : Prop := huffTimesRow.holds Try.pinned (OpenSpec.ofChange huffTimesSpec)

/-- ITS FALSE NEIGHBOUR: 'it returns false'. Refute it at one input. -/
def huffTimesWrong : ChangeSpec := { name := "huffTimes", fn := fun _ => fun
  | [d1, d2] => { results := [.lit (.bool false)], args := [d1, d2] }
  | _ => none }
def HuffTimesWrongFalsely : Prop := huffTimesRow.holds Try.pinned (OpenSpec.ofChange huffTimesWrong)

/-- 'lampwrightlaw.HuffFlat': WHATEVER THE INPUT: true; the input reads as it did. -/
def huffFlatSpec : ChangeSpec := { name := "huffFlat", fn := fun _ => fun
  | [d1, d2] => { results := [.lit (.bool true)], args := [d1, d2] }
  | _ => none }
def huffFlatRow : OpenClaim := { program := "ytilaklhajonenaa", sum := "fa398a9ea7de8d252ce2f97684d8c1b31d2ff3c90a13efe49603b30591befaf2", func := "lampwright/lampwrightlaw.HuffFlat", spec := "huffFlat", inPlace := ["slices.overlaps[lampwright/huff.group]"], unfollowed := true, recurses := true, apart := false }
def HuffFlatSaid : Prop := huffFlatRow.holds Try.pinned (OpenSpec.ofChange huffFlatSpec)

/-- ITS FALSE NEIGHBOUR: 'it returns false'. Refute it at one input. -/
def huffFlatWrong : ChangeSpec := { name := "huffFlat", fn := fun _ => fun
  | [d1, d2] => { results := [.lit (.bool false)], args := [d1, d2] }
  | _ => none }
def HuffFlatWrongFalsely : Prop := huffFlatRow.holds Try.pinned (OpenSpec.ofChange huffFlatWrong)

/-- 'lampwrightlaw.HuffTurn': WHATEVER THE INPUT: true; the input reads as it did. -/
def huffTurnSpec : ChangeSpec := { name := "huffTurn", fn := fun _ => fun
  | [d] => { results := [.lit (.bool true)], args := [d] }
  | _ => none }
def huffTurnRow : OpenClaim := { program := "ytilaklhajonenaa", sum := "fa398a9ea7de8d252ce2f97684d8c1b31d2ff3c90a13efe49603b30591befaf2", func := "lampwright/lampwrightlaw.HuffTurn", spec := "huffTurn", inPlace := ["slices.overlaps[lampwright/huff.group]"], unfollowed := true, recurses := true, apart := false }
def HuffTurnSaid : Prop := huffTurnRow.holds Try.pinned (OpenSpec.ofChange huffTurnSpec)

/-- ITS FALSE NEIGHBOUR: 'it returns false'. Refute it at one input. -/
def huffTurnWrong : ChangeSpec := { name := "huffTurn", fn := fun _ => fun
  | [d] => { results := [.lit (.bool false)], args := [d] }
  | _ => none }
def HuffTurnWrongFalsely : Prop := huffTurnRow.holds Try.pinned (OpenSpec.ofChange huffTurnWrong)

/-- 'lampwrightlaw.HuffMore': WHATEVER THE INPUT: true; the input reads as it did. -/
def huffMoreSpec : ChangeSpec := { name := "huffMore", fn := fun _ => fun
  | [d1, d2] => { results := [.lit (.bool true)], args := [d1, d2] }
  | _ => none }
def huffMoreRow : OpenClaim := { program := "ytilaklhajonenaa", sum := "fa398a9ea7de8d252ce2f97684d8c1b31d2ff3c90a13efe49603b30591befaf2", func := "lampwright/lampwrightlaw.HuffMore", spec := "huffMore", inPlace := ["slices.overlaps[lampwright/huff.group]"], unfollowed := true, recurses := true, apart := false }
def HuffMoreSaid : Prop := huffMoreRow.holds Try.pinned (OpenSpec.ofChange huffMoreSpec)

/-- ITS FALSE NEIGHBOUR: 'it returns false'. Refute it at one input. -/
def huffMoreWrong : ChangeSpec := { name := "huffMore", fn := fun _ => fun
  | [d1, d2] => { results := [.lit (.bool false)], args := [d1, d2] }
  | _ => none }
def HuffMoreWrongFalsely : Prop := huffMoreRow.holds Try.pinned (OpenSpec.ofChange huffMoreWrong)

/-- 'lampwrightlaw.HuffLeast': WHATEVER THE INPUT: true; the input reads as it did. -/
def huffLeastSpec : ChangeSpec := { name := "huffLeast", fn := fun _ => fun
  | [d1, d2] => { results := [.lit (.bool true)], args := [d1, d2] }
  | _ => none }
def huffLeastRow : OpenClaim := { program := "ytilaklhajonenaa", sum := "fa398a9ea7de8d252ce2f97684d8c1b31d2ff3c90a13efe49603b30591befaf2", func := "lampwright/lampwrightlaw.HuffLeast", spec := "huffLeast", inPlace := ["slices.overlaps[lampwright/huff.group]"], unfollowed := true, recurses := true, apart := false }
def HuffLeastSaid : Prop := huffLeastRow.holds Try.pinned (OpenSpec.ofChange huffLeastSpec)

/-- ITS FALSE NEIGHBOUR: 'it returns false'. Refute it at one input. -/
def huffLeastWrong : ChangeSpec := { name := "huffLeast", fn := fun _ => fun
  | [d1, d2] => { results := [.lit (.bool false)], args := [d1, d2] }
  | _ => none }
def HuffLeastWrongFalsely : Prop := huffLeastRow.holds Try.pinned (OpenSpec.ofChange huffLeastWrong)

/- THE SECOND FORM. 'bulk': how many values and letters a reading holds, each counted each time it is reached (what is shared counts as often as it is met; a slice's spare places count too). A statement '..UptoSaid' is the law's where the arguments, and the package variables that the reading takes, are together of bulk at most 1048576: NARROWER than '..Said'. Prove '..Said' where nothing that the law and all that it calls make is longer than what came in: it says more and counts as full. Else prove '..UptoSaid'. A law counts once. -/
mutual
def uptoBulk {H : Type} : DataW H → Nat
  | .lit (.string bytes) => bytes.length + 1
  | .lit _ => 1
  | .nil => 1
  | .ptr d => uptoBulk d + 1
  | .slice elems spare => uptoBulkAll elems + uptoBulkAll spare + 1
  | .agg parts => uptoBulkAll parts + 1
  | .iface _ d => uptoBulk d + 1
  | .map entries => uptoBulkEntries entries + 1
  | .held _ => 1
def uptoBulkAll {H : Type} : List (DataW H) → Nat
  | [] => 0
  | d :: r => uptoBulk d + uptoBulkAll r
def uptoBulkEntries {H : Type} : List (Lit × DataW H) → Nat
  | [] => 0
  | x :: r => uptoBulkEntry x + uptoBulkEntries r
def uptoBulkEntry {H : Type} : Lit × DataW H → Nat
  | (.string bytes, d) => bytes.length + uptoBulk d + 1
  | (_, d) => uptoBulk d + 1
 end
def uptoSmall : (H : Type) → List (DataW H) → Bool := fun _ ds => decide (uptoBulkAll ds ≤ 1048576)
def OpenSpec.upto (s : _root_.Go.ChangeSpec) : _root_.Go.OpenSpec := { _root_.Go.OpenSpec.ofChange s with cond := some uptoSmall }

/-- 'lampwrightlaw.HuffTells', WHERE WHAT IT READS IS OF BULK AT MOST 1048576: true; the input reads as it did. -/
def huffTellsUptoRow : OpenClaim := { program := "ytilaklhajonenaa", sum := "fa398a9ea7de8d252ce2f97684d8c1b31d2ff3c90a13efe49603b30591befaf2", func := "lampwright/lampwrightlaw.HuffTells", spec := "huffTells", inPlace := ["slices.overlaps[lampwright/huff.group]"], unfollowed := true, recurses := true, apart := false, narrowed := true }
def HuffTellsUptoSaid : Prop := huffTellsUptoRow.holds Try.pinned (OpenSpec.upto huffTellsSpec)

/-- 'lampwrightlaw.HuffBack', WHERE WHAT IT READS IS OF BULK AT MOST 1048576: true; the input reads as it did. -/
def huffBackUptoRow : OpenClaim := { program := "ytilaklhajonenaa", sum := "fa398a9ea7de8d252ce2f97684d8c1b31d2ff3c90a13efe49603b30591befaf2", func := "lampwright/lampwrightlaw.HuffBack", spec := "huffBack", inPlace := ["slices.overlaps[lampwright/huff.group]"], unfollowed := true, recurses := true, apart := false, narrowed := true }
def HuffBackUptoSaid : Prop := huffBackUptoRow.holds Try.pinned (OpenSpec.upto huffBackSpec)

/-- 'lampwrightlaw.HuffOften', WHERE WHAT IT READS IS OF BULK AT MOST 1048576: true; the input reads as it did. -/
def huffOftenUptoRow : OpenClaim := { program := "ytilaklhajonenaa", sum := "fa398a9ea7de8d252ce2f97684d8c1b31d2ff3c90a13efe49603b30591befaf2", func := "lampwright/lampwrightlaw.HuffOften", spec := "huffOften", inPlace := ["slices.overlaps[lampwright/huff.group]"], unfollowed := true, recurses := true, apart := false, narrowed := true }
def HuffOftenUptoSaid : Prop := huffOftenUptoRow.holds Try.pinned (OpenSpec.upto huffOftenSpec)

/-- 'lampwrightlaw.HuffTimes', WHERE WHAT IT READS IS OF BULK AT MOST 1048576: true; the input reads as it did. -/
def huffTimesUptoRow : OpenClaim := { program := "ytilaklhajonenaa", sum := "fa398a9ea7de8d252ce2f97684d8c1b31d2ff3c90a13efe49603b30591befaf2", func := "lampwright/lampwrightlaw.HuffTimes", spec := "huffTimes", inPlace := ["slices.overlaps[lampwright/huff.group]"], unfollowed := true, recurses := true, apart := false, narrowed := true }
def HuffTimesUptoSaid : Prop := huffTimesUptoRow.holds Try.pinned (OpenSpec.upto huffTimesSpec)

/-- 'lampwrightlaw.HuffFlat', WHERE WHAT IT READS IS OF BULK AT MOST 1048576: true; the input reads as it did. -/
def huffFlatUptoRow : OpenClaim := { program := "ytilaklhajonenaa", sum := "fa398a9ea7de8d252ce2f97684d8c1b31d2ff3c90a13efe49603b30591befaf2", func := "lampwright/lampwrightlaw.HuffFlat", spec := "huffFlat", inPlace := ["slices.overlaps[lampwright/huff.group]"], unfollowed := true, recurses := true, apart := false, narrowed := true }
def HuffFlatUptoSaid : Prop := huffFlatUptoRow.holds Try.pinned (OpenSpec.upto huffFlatSpec)

/-- 'lampwrightlaw.HuffTurn', WHERE WHAT IT READS IS OF BULK AT MOST 1048576: true; the input reads as it did. -/
def huffTurnUptoRow : OpenClaim := { program := "ytilaklhajonenaa", sum := "fa398a9ea7de8d252ce2f97684d8c1b31d2ff3c90a13efe49603b30591befaf2", func := "lampwright/lampwrightlaw.HuffTurn", spec := "huffTurn", inPlace := ["slices.overlaps[lampwright/huff.group]"], unfollowed := true, recurses := true, apart := false, narrowed := true }
def HuffTurnUptoSaid : Prop := huffTurnUptoRow.holds Try.pinned (OpenSpec.upto huffTurnSpec)

/-- 'lampwrightlaw.HuffMore', WHERE WHAT IT READS IS OF BULK AT MOST 1048576: true; the input reads as it did. -/
def huffMoreUptoRow : OpenClaim := { program := "ytilaklhajonenaa", sum := "fa398a9ea7de8d252ce2f97684d8c1b31d2ff3c90a13efe49603b30591befaf2", func := "lampwright/lampwrightlaw.HuffMore", spec := "huffMore", inPlace := ["slices.overlaps[lampwright/huff.group]"], unfollowed := true, recurses := true, apart := false, narrowed := true }
def HuffMoreUptoSaid : Prop := huffMoreUptoRow.holds Try.pinned (OpenSpec.upto huffMoreSpec)

/-- 'lampwrightlaw.HuffLeast', WHERE WHAT IT READS IS OF BULK AT MOST 1048576: true; the input reads as it did. -/
def huffLeastUptoRow : OpenClaim := { program := "ytilaklhajonenaa", sum := "fa398a9ea7de8d252ce2f97684d8c1b31d2ff3c90a13efe49603b30591befaf2", func := "lampwright/lampwrightlaw.HuffLeast", spec := "huffLeast", inPlace := ["slices.overlaps[lampwright/huff.group]"], unfollowed := true, recurses := true, apart := false, narrowed := true }
def HuffLeastUptoSaid : Prop := huffLeastUptoRow.holds Try.pinned (OpenSpec.upto huffLeastSpec)

end Rows
end Go.Proofs.Ytilaklhajonenaa
