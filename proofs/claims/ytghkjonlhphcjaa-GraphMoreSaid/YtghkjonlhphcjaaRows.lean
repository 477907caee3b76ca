/-
  No cell of these rows narrows 'for every input' (looked for: loops, veiled, ifaces, maps, wideKeys, modest, calm, conditions, laid).
  DERIVED. THE GIVEN ROWS OF THIS SEAT. 12 by the template 'for every input the law returns true; each argument reads behind the call as it read before'; 0 by the template 'total and deterministic' (their statements: YtghkjonlhphcjaaTotals.lean).
  GIVEN WITH THE SEED: the statements are not yours to turn. If you find one false, say at which input.
  Laid BY PROGRAM, IN A SANDBOX (cutbox-rows.mjs): the forced cells as the released guide's own fill.sh prints them over the translation d75e42699f14a3ba… (all of the seat's roots in one cut). By AI agents, Wed Nov 11 2026. No macro, syntax, notation, axiom, sorry.
-/
import Derived.Test.YtghkjonlhphcjaaChecked
import GoSem.Claim
import GoSem.ClaimJoined
import GoSem.ClaimMapViews
import Derived.JoinedTies
import Derived.KernelRfl
namespace Go.Proofs.Ytghkjonlhphcjaa
/- THE CELL 'sum', in the pinned program and in every row, IS THE sha256 OF THE DUMP (.gsa) THAT YtghkjonlhphcjaaProg.lean LOADS. Nothing in Lean hashes anything: it is a label: what it is worth is what the hold of that sum in a sandbox is worth. -/
noncomputable def Try.pinned : Pinned := { name := "ytghkjonlhphcjaa", sum := "d75e42699f14a3ba93ca53402a27f0d08bee5955878fd9bd3dec5fa158af547f", checked := Try.checked }
namespace Rows
def none {H : Type} : Left H := { results := [], args := [] }

/-- 'lampwrightlaw.GraphTells': WHATEVER THE INPUT: true; the input reads as it did. -/
def graphTellsSpec : ChangeSpec := { name := "graphTells", fn := fun _ => fun
  | [d1, d2, d3] => { results := [.lit (.bool true)], args := [d1, d2, d3] }
  | _ => none }
def graphTellsRow : OpenClaim := { program := "ytghkjonlhphcjaa", sum := "d75e42699f14a3ba93ca53402a27f0d08bee5955878fd9bd3dec5fa158af547f", func := "lampwright/lampwrightlaw.GraphTells", spec := "graphTells", unfollowed := true, recurses := true, plainKeys := false, apart := false }
def GraphTellsSaid : Prop := graphTellsRow.holds Try.pinned (OpenSpec.ofChange graphTellsSpec)

/-- ITS FALSE NEIGHBOUR: 'it returns false'. Refute it at one input. -/
def graphTellsWrong : ChangeSpec := { name := "graphTells", fn := fun _ => fun
  | [d1, d2, d3] => { results := [.lit (.bool false)], args := [d1, d2, d3] }
  | _ => none }
def GraphTellsWrongFalsely : Prop := graphTellsRow.holds Try.pinned (OpenSpec.ofChange graphTellsWrong)

/-- 'lampwrightlaw.GraphBack': WHATEVER THE INPUT: true; the input reads as it did. -/
def graphBackSpec : ChangeSpec := { name := "graphBack", fn := fun _ => fun
  | [d1, d2] => { results := [.lit (.bool true)], args := [d1, d2] }
  | _ => none }
def graphBackRow : OpenClaim := { program := "ytghkjonlhphcjaa", sum := "d75e42699f14a3ba93ca53402a27f0d08bee5955878fd9bd3dec5fa158af547f", func := "lampwright/lampwrightlaw.GraphBack", spec := "graphBack", unfollowed := true, recurses := true, plainKeys := false, apart := false }
def GraphBackSaid : Prop := graphBackRow.holds Try.pinned (OpenSpec.ofChange graphBackSpec)

/-- ITS FALSE NEIGHBOUR: 'it returns false'. Refute it at one input. -/
def graphBackWrong : ChangeSpec := { name := "graphBack", fn := fun _ => fun
  | [d1, d2] => { results := [.lit (.bool false)], args := [d1, d2] }
  | _ => none }
def GraphBackWrongFalsely : Prop := graphBackRow.holds Try.pinned (OpenSpec.ofChange graphBackWrong)

/-- 'lampwrightlaw.GraphTurn': WHATEVER THE INPUT: true; the input reads as it did. -/
def graphTurnSpec : ChangeSpec := { name := "graphTurn", fn := fun _ => fun
  | [d] => { results := [.lit (.bool true)], args := [d] }
  | _ => none }
def graphTurnRow : OpenClaim := { program := "ytghkjonlhphcjaa", sum := "d75e42699f14a3ba93ca53402a27f0d08bee5955878fd9bd3dec5fa158af547f", func := "lampwright/lampwrightlaw.GraphTurn", spec := "graphTurn", unfollowed := true, recurses := true, plainKeys := false, apart := false }
def GraphTurnSaid : Prop := graphTurnRow.holds Try.pinned (OpenSpec.ofChange graphTurnSpec)

/-- ITS FALSE NEIGHBOUR: 'it returns false'. Refute it at one input. -/
def graphTurnWrong : ChangeSpec := { name := "graphTurn", fn := fun _ => fun
  | [d] => { results := [.lit (.bool false)], args := [d] }
  | _ => none }
def GraphTurnWrongFalsely : Prop := graphTurnRow.holds Try.pinned (OpenSpec.ofChange graphTurnWrong)

/-- 'lampwrightlaw.GraphBoth': WHATEVER THE INPUT: true; the input reads as it did. -/
def graphBothSpec : ChangeSpec := { name := "graphBoth", fn := fun _ => fun
  | [d1, d2] => { results := [.lit (.bool true)], args := [d1, d2] }
  | _ => none }
def graphBothRow : OpenClaim := { program := "ytghkjonlhphcjaa", sum := "d75e42699f14a3ba93ca53402a27f0d08bee5955878fd9bd3dec5fa158af547f", func := "lampwright/lampwrightlaw.GraphBoth", spec := "graphBoth", unfollowed := true, recurses := true, plainKeys := false, apart := false }
def GraphBothSaid : Prop := graphBothRow.holds Try.pinned (OpenSpec.ofChange graphBothSpec)

/-- ITS FALSE NEIGHBOUR: 'it returns false'. Refute it at one input. -/
def graphBothWrong : ChangeSpec := { name := "graphBoth", fn := fun _ => fun
  | [d1, d2] => { results := [.lit (.bool false)], args := [d1, d2] }
  | _ => none }
def GraphBothWrongFalsely : Prop := graphBothRow.holds Try.pinned (OpenSpec.ofChange graphBothWrong)

/-- 'lampwrightlaw.GraphMore': WHATEVER THE INPUT: true; the input reads as it did. -/
def graphMoreSpec : ChangeSpec := { name := "graphMore", fn := fun _ => fun
  | [d1, d2] => { results := [.lit (.bool true)], args := [d1, d2] }
  | _ => none }
def graphMoreRow : OpenClaim := { program := "ytghkjonlhphcjaa", sum := "d75e42699f14a3ba93ca53402a27f0d08bee5955878fd9bd3dec5fa158af547f", func := "lampwright/lampwrightlaw.GraphMore", spec := "graphMore", unfollowed := true, recurses := true, plainKeys := false, apart := false }
def GraphMoreSaid : Prop := graphMoreRow.holds Try.pinned (OpenSpec.ofChange graphMoreSpec)

/-- ITS FALSE NEIGHBOUR: 'it returns false'. Refute it at one input. -/
def graphMoreWrong : ChangeSpec := { name := "graphMore", fn := fun _ => fun
  | [d1, d2] => { results := [.lit (.bool false)], args := [d1, d2] }
  | _ => none }
def GraphMoreWrongFalsely : Prop := graphMoreRow.holds Try.pinned (OpenSpec.ofChange graphMoreWrong)

/-- 'lampwrightlaw.GraphLess': WHATEVER THE INPUT: true; the input reads as it did. -/
def graphLessSpec : ChangeSpec := { name := "graphLess", fn := fun _ => fun
  | [d1, d2] => { results := [.lit (.bool true)], args := [d1, d2] }
  | _ => none }
def graphLessRow : OpenClaim := { program := "ytghkjonlhphcjaa", sum := "d75e42699f14a3ba93ca53402a27f0d08bee5955878fd9bd3dec5fa158af547f", func := "lampwright/lampwrightlaw.GraphLess", spec := "graphLess", unfollowed := true, recurses := true, plainKeys := false, apart := false }
def GraphLessSaid : Prop := graphLessRow.holds Try.pinned (OpenSpec.ofChange graphLessSpec)

/-- ITS FALSE NEIGHBOUR: 'it returns false'. Refute it at one input. -/
def graphLessWrong : ChangeSpec := { name := "graphLess", fn := fun _ => fun
  | [d1, d2] => { results := [.lit (.bool false)], args := [d1, d2] }
  | _ => none }
def GraphLessWrongFalsely : Prop := graphLessRow.holds Try.pinned (OpenSpec.ofChange graphLessWrong)

/-- 'lampwrightlaw.PartsTell': WHATEVER THE INPUT: true; the input reads as it did. -/
def partsTellSpec : ChangeSpec := { name := "partsTell", fn := fun _ => fun
  | [d1, d2, d3] => { results := [.lit (.bool true)], args := [d1, d2, d3] }
  | _ => none }
def partsTellRow : OpenClaim := { program := "ytghkjonlhphcjaa", sum := "d75e42699f14a3ba93ca53402a27f0d08bee5955878fd9bd3dec5fa158af547f", func := "lampwright/lampwrightlaw.PartsTell", spec := "partsTell", recurses := true, plainKeys := false, apart := false }
def PartsTellSaid : Prop := partsTellRow.holds Try.pinned (OpenSpec.ofChange partsTellSpec)

/-- ITS FALSE NEIGHBOUR: 'it returns false'. Refute it at one input. -/
def partsTellWrong : ChangeSpec := { name := "partsTell", fn := fun _ => fun
  | [d1, d2, d3] => { results := [.lit (.bool false)], args := [d1, d2, d3] }
  | _ => none }
def PartsTellWrongFalsely : Prop := partsTellRow.holds Try.pinned (OpenSpec.ofChange partsTellWrong)

/-- 'lampwrightlaw.PartsBack': WHATEVER THE INPUT: true; the input reads as it did. -/
def partsBackSpec : ChangeSpec := { name := "partsBack", fn := fun _ => fun
  | [d1, d2] => { results := [.lit (.bool true)], args := [d1, d2] }
  | _ => none }
def partsBackRow : OpenClaim := { program := "ytghkjonlhphcjaa", sum := "d75e42699f14a3ba93ca53402a27f0d08bee5955878fd9bd3dec5fa158af547f", func := "lampwright/lampwrightlaw.PartsBack", spec := "partsBack", recurses := true, plainKeys := false, apart := false }
def PartsBackSaid : Prop := partsBackRow.holds Try.pinned (OpenSpec.ofChange partsBackSpec)

/-- ITS FALSE NEIGHBOUR: 'it returns false'. Refute it at one input. -/
def partsBackWrong : ChangeSpec := { name := "partsBack", fn := fun _ => fun
  | [d1, d2] => { results := [.lit (.bool false)], args := [d1, d2] }
  | _ => none }
def PartsBackWrongFalsely : Prop := partsBackRow.holds Try.pinned (OpenSpec.ofChange partsBackWrong)

/-- 'lampwrightlaw.PartsFew': WHATEVER THE INPUT: true; the input reads as it did. -/
def partsFewSpec : ChangeSpec := { name := "partsFew", fn := fun _ => fun
  | [d1, d2] => { results := [.lit (.bool true)], args := [d1, d2] }
  | _ => none }
def partsFewRow : OpenClaim := { program := "ytghkjonlhphcjaa", sum := "d75e42699f14a3ba93ca53402a27f0d08bee5955878fd9bd3dec5fa158af547f", func := "lampwright/lampwrightlaw.PartsFew", spec := "partsFew", recurses := true, plainKeys := false, apart := false }
def PartsFewSaid : Prop := partsFewRow.holds Try.pinned (OpenSpec.ofChange partsFewSpec)

/-- ITS FALSE NEIGHBOUR: 'it returns false'. Refute it at one input. -/
def partsFewWrong : ChangeSpec := { name := "partsFew", fn := fun _ => fun
  | [d1, d2] => { results := [.lit (.bool false)], args := [d1, d2] }
  | _ => none }
def PartsFewWrongFalsely : Prop := partsFewRow.holds Try.pinned (OpenSpec.ofChange partsFewWrong)

/-- 'lampwrightlaw.PartsSelf': WHATEVER THE INPUT: true; the input reads as it did. -/
def partsSelfSpec : ChangeSpec := { name := "partsSelf", fn := fun _ => fun
  | [d] => { results := [.lit (.bool true)], args := [d] }
  | _ => none }
def partsSelfRow : OpenClaim := { program := "ytghkjonlhphcjaa", sum := "d75e42699f14a3ba93ca53402a27f0d08bee5955878fd9bd3dec5fa158af547f", func := "lampwright/lampwrightlaw.PartsSelf", spec := "partsSelf", recurses := true, plainKeys := false, apart := false }
def PartsSelfSaid : Prop := partsSelfRow.holds Try.pinned (OpenSpec.ofChange partsSelfSpec)

/-- ITS FALSE NEIGHBOUR: 'it returns false'. Refute it at one input. -/
def partsSelfWrong : ChangeSpec := { name := "partsSelf", fn := fun _ => fun
  | [d] => { results := [.lit (.bool false)], args := [d] }
  | _ => none }
def PartsSelfWrongFalsely : Prop := partsSelfRow.holds Try.pinned (OpenSpec.ofChange partsSelfWrong)

/-- 'lampwrightlaw.PartsSwap': WHATEVER THE INPUT: true; the input reads as it did. -/
def partsSwapSpec : ChangeSpec := { name := "partsSwap", fn := fun _ => fun
  | [d1, d2] => { results := [.lit (.bool true)], args := [d1, d2] }
  | _ => none }
def partsSwapRow : OpenClaim := { program := "ytghkjonlhphcjaa", sum := "d75e42699f14a3ba93ca53402a27f0d08bee5955878fd9bd3dec5fa158af547f", func := "lampwright/lampwrightlaw.PartsSwap", spec := "partsSwap", recurses := true, plainKeys := false, apart := false }
def PartsSwapSaid : Prop := partsSwapRow.holds Try.pinned (OpenSpec.ofChange partsSwapSpec)

/-- ITS FALSE NEIGHBOUR: 'it returns false'. Refute it at one input. -/
def partsSwapWrong : ChangeSpec := { name := "partsSwap", fn := fun _ => fun
  | [d1, d2] => { results := [.lit (.bool false)], args := [d1, d2] }
  | _ => none }
def PartsSwapWrongFalsely : Prop := partsSwapRow.holds Try.pinned (OpenSpec.ofChange partsSwapWrong)

/-- 'lampwrightlaw.PartsApart': WHATEVER THE INPUT: true; the input reads as it did. -/
def partsApartSpec : ChangeSpec := { name := "partsApart", fn := fun _ => fun
  | [d1, d2, d3] => { results := [.lit (.bool true)], args := [d1, d2, d3] }
  | _ => none }
def partsApartRow : OpenClaim := { program := "ytghkjonlhphcjaa", sum := "d75e42699f14a3ba93ca53402a27f0d08bee5955878fd9bd3dec5fa158af547f", func := "lampwright/lampwrightlaw.PartsApart", spec := "partsApart", recurses := true, plainKeys := false, apart := false }
def PartsApartSaid : Prop := partsApartRow.holds Try.pinned (OpenSpec.ofChange partsApartSpec)

/-- ITS FALSE NEIGHBOUR: 'it returns false'. Refute it at one input. -/
def partsApartWrong : ChangeSpec := { name := "partsApart", fn := fun _ => fun
  | [d1, d2, d3] => { results := [.lit (.bool false)], args := [d1, d2, d3] }
  | _ => none }
def PartsApartWrongFalsely : Prop := partsApartRow.holds Try.pinned (OpenSpec.ofChange partsApartWrong)

/- THE SECOND FORM. 'bulk': how many values and letters a reading holds, each counted each time it is reached (what is shared counts as often as it is met; a slice's spare places count too). A statement '..UptoSaid' is the law's where the arguments, and the package variables that the reading takes, are together of bulk at most 1048576: NARROWER than '..Said'. Prove '..Said' where nothing that the law and all that it calls make is longer than what came in: it says more and counts as full. Else prove '..UptoSaid'. A law counts once. -/
mutual
def uptoBulk {H : Type} : DataW H → Nat
  | .lit (.string bytes) => bytes.length + 1
  | .lit _ => 1
  | .nil => 1
  | .ptr d => uptoBulk d + 1
  | .slice elems spare => uptoBulkAll elems + uptoBulkAll spare + 1
  | .agg parts => uptoBulkAll parts + 1
  | .iface _ d => uptoBulk d + 1
  | .map entries => uptoBulkEntries entries + 1
  | .held _ => 1
def uptoBulkAll {H : Type} : List (DataW H) → Nat
  | [] => 0
  | d :: r => uptoBulk d + uptoBulkAll r
def uptoBulkEntries {H : Type} : List (Lit × DataW H) → Nat
  | [] => 0
  | x :: r => uptoBulkEntry x + uptoBulkEntries r
def uptoBulkEntry {H : Type} : Lit × DataW H → Nat
  | (.string bytes, d) => bytes.length + uptoBulk d + 1
  | (_, d) => uptoBulk d + 1
 end
def uptoSmall : (H : Type) → List (DataW H) → Bool := fun _ ds => decide (uptoBulkAll ds ≤ 1048576)
def OpenSpec.upto (s : _root_.Go.ChangeSpec) : _root_.Go.OpenSpec := { _root_.Go.OpenSpec.ofChange s with cond := some uptoSmall }

/-- 'lampwrightlaw.GraphTells', WHERE WHAT IT READS IS OF BULK AT MOST 1048576: true; the input reads as it did. -/
def graphTellsUptoRow : OpenClaim := { program := "ytghkjonlhphcjaa", sum := "d75e42699f14a3ba93ca53402a27f0d08bee5955878fd9bd3dec5fa158af547f", func := "lampwright/lampwrightlaw.GraphTells", spec := "graphTells", unfollowed := true, recurses := true, plainKeys := false, apart := false, narrowed := true }
def GraphTellsUptoSaid : Prop := graphTellsUptoRow.holds Try.pinned (OpenSpec.upto graphTellsSpec)

/-- 'lampwrightlaw.GraphBack', WHERE WHAT IT READS IS OF BULK AT MOST 1048576: true; the input reads as it did. -/
def graphBackUptoRow : OpenClaim := { program := "ytghkjonlhphcjaa", sum := "d75e42699f14a3ba93ca53402a27f0d08bee5955878fd9bd3dec5fa158af547f", func := "lampwright/lampwrightlaw.GraphBack", spec := "graphBack", unfollowed := true, recurses := true, plainKeys := false, apart := false, narrowed := true }
def GraphBackUptoSaid : Prop := graphBackUptoRow.holds Try.pinned (OpenSpec.upto graphBackSpec)

/-- 'lampwrightlaw.GraphTurn', WHERE WHAT IT READS IS OF BULK AT MOST 1048576: true; the input reads as it did. -/
def graphTurnUptoRow : OpenClaim := { program := "ytghkjonlhphcjaa", sum := "d75e42699f14a3ba93ca53402a27f0d08bee5955878fd9bd3dec5fa158af547f", func := "lampwright/lampwrightlaw.GraphTurn", spec := "graphTurn", unfollowed := true, recurses := true, plainKeys := false, apart := false, narrowed := true }
def GraphTurnUptoSaid : Prop := graphTurnUptoRow.holds Try.pinned (OpenSpec.upto graphTurnSpec)

/-- 'lampwrightlaw.GraphBoth', WHERE WHAT IT READS IS OF BULK AT MOST 1048576: true; the input reads as it did. -/
def graphBothUptoRow : OpenClaim := { program := "ytghkjonlhphcjaa", sum := "d75e42699f14a3ba93ca53402a27f0d08bee5955878fd9bd3dec5fa158af547f", func := "lampwright/lampwrightlaw.GraphBoth", spec := "graphBoth", unfollowed := true, recurses := true, plainKeys := false, apart := false, narrowed := true }
def GraphBothUptoSaid : Prop := graphBothUptoRow.holds Try.pinned (OpenSpec.upto graphBothSpec)

/-- 'lampwrightlaw.GraphMore', WHERE WHAT IT READS IS OF BULK AT MOST 1048576: true; the input reads as it did. -/
def graphMoreUptoRow : OpenClaim := { program := "ytghkjonlhphcjaa", sum := "d75e42699f14a3ba93ca53402a27f0d08bee5955878fd9bd3dec5fa158af547f", func := "lampwright/lampwrightlaw.GraphMore", spec := "graphMore", unfollowed := true, recurses := true, plainKeys := false, apart := false, narrowed := true }
def GraphMoreUptoSaid : Prop := graphMoreUptoRow.holds Try.pinned (OpenSpec.upto graphMoreSpec)

/-- 'lampwrightlaw.GraphLess', WHERE WHAT IT READS IS OF BULK AT MOST 1048576: true; the input reads as it did. -/
def graphLessUptoRow : OpenClaim := { program := "ytghkjonlhphcjaa", sum := "d75e42699f14a3ba93ca53402a27f0d08bee5955878fd9bd3dec5fa158af547f", func := "lampwright/lampwrightlaw.GraphLess", spec := "graphLess", unfollowed := true, recurses := true, plainKeys := false, apart := false, narrowed := true }
def GraphLessUptoSaid : Prop := graphLessUptoRow.holds Try.pinned (OpenSpec.upto graphLessSpec)

/-- 'lampwrightlaw.PartsTell', WHERE WHAT IT READS IS OF BULK AT MOST 1048576: true; the input reads as it did. -/
def partsTellUptoRow : OpenClaim := { program := "ytghkjonlhphcjaa", sum := "d75e42699f14a3ba93ca53402a27f0d08bee5955878fd9bd3dec5fa158af547f", func := "lampwright/lampwrightlaw.PartsTell", spec := "partsTell", recurses := true, plainKeys := false, apart := false, narrowed := true }
def PartsTellUptoSaid : Prop := partsTellUptoRow.holds Try.pinned (OpenSpec.upto partsTellSpec)

/-- 'lampwrightlaw.PartsBack', WHERE WHAT IT READS IS OF BULK AT MOST 1048576: true; the input reads as it did. -/
def partsBackUptoRow : OpenClaim := { program := "ytghkjonlhphcjaa", sum := "d75e42699f14a3ba93ca53402a27f0d08bee5955878fd9bd3dec5fa158af547f", func := "lampwright/lampwrightlaw.PartsBack", spec := "partsBack", recurses := true, plainKeys := false, apart := false, narrowed := true }
def PartsBackUptoSaid : Prop := partsBackUptoRow.holds Try.pinned (OpenSpec.upto partsBackSpec)

/-- 'lampwrightlaw.PartsFew', WHERE WHAT IT READS IS OF BULK AT MOST 1048576: true; the input reads as it did. -/
def partsFewUptoRow : OpenClaim := { program := "ytghkjonlhphcjaa", sum := "d75e42699f14a3ba93ca53402a27f0d08bee5955878fd9bd3dec5fa158af547f", func := "lampwright/lampwrightlaw.PartsFew", spec := "partsFew", recurses := true, plainKeys := false, apart := false, narrowed := true }
def PartsFewUptoSaid : Prop := partsFewUptoRow.holds Try.pinned (OpenSpec.upto partsFewSpec)

/-- 'lampwrightlaw.PartsSelf', WHERE WHAT IT READS IS OF BULK AT MOST 1048576: true; the input reads as it did. -/
def partsSelfUptoRow : OpenClaim := { program := "ytghkjonlhphcjaa", sum := "d75e42699f14a3ba93ca53402a27f0d08bee5955878fd9bd3dec5fa158af547f", func := "lampwright/lampwrightlaw.PartsSelf", spec := "partsSelf", recurses := true, plainKeys := false, apart := false, narrowed := true }
def PartsSelfUptoSaid : Prop := partsSelfUptoRow.holds Try.pinned (OpenSpec.upto partsSelfSpec)

/-- 'lampwrightlaw.PartsSwap', WHERE WHAT IT READS IS OF BULK AT MOST 1048576: true; the input reads as it did. -/
def partsSwapUptoRow : OpenClaim := { program := "ytghkjonlhphcjaa", sum := "d75e42699f14a3ba93ca53402a27f0d08bee5955878fd9bd3dec5fa158af547f", func := "lampwright/lampwrightlaw.PartsSwap", spec := "partsSwap", recurses := true, plainKeys := false, apart := false, narrowed := true }
def PartsSwapUptoSaid : Prop := partsSwapUptoRow.holds Try.pinned (OpenSpec.upto partsSwapSpec)

/-- 'lampwrightlaw.PartsApart', WHERE WHAT IT READS IS OF BULK AT MOST 1048576: true; the input reads as it did. -/
def partsApartUptoRow : OpenClaim := { program := "ytghkjonlhphcjaa", sum := "d75e42699f14a3ba93ca53402a27f0d08bee5955878fd9bd3dec5fa158af547f", func := "lampwright/lampwrightlaw.PartsApart", spec := "partsApart", recurses := true, plainKeys := false, apart := false, narrowed := true }
def PartsApartUptoSaid : Prop := partsApartUptoRow.holds Try.pinned (OpenSpec.upto partsApartSpec)

end Rows
end Go.Proofs.Ytghkjonlhphcjaa
