/-
  No cell of these rows narrows 'for every input' (looked for: loops, veiled, ifaces, maps, wideKeys, modest, calm, conditions, laid).
  DERIVED. THE GIVEN ROWS OF THIS SEAT. 12 by the template 'for every input the law returns true; each argument reads behind the call as it read before'; 0 by the template 'total and deterministic' (their statements: YtecangnmnkejfaaTotals.lean).
  GIVEN WITH THE SEED: the statements are not yours to turn. If you find one false, say at which input.
  Laid BY PROGRAM, IN A SANDBOX (cutbox-rows.mjs): the forced cells as the released guide's own fill.sh prints them over the translation ae9cdb3d40af30e0… (all of the seat's roots in one cut). By AI agents, Wed Nov 11 2026. No macro, syntax, notation, axiom, sorry.
-/
import Derived.Test.YtecangnmnkejfaaChecked
import GoSem.Claim
import GoSem.ClaimJoined
import GoSem.ClaimMapViews
import Derived.JoinedTies
import Derived.KernelRfl
namespace Go.Proofs.Ytecangnmnkejfaa
/- THE CELL 'sum', in the pinned program and in every row, IS THE sha256 OF THE DUMP (.gsa) THAT YtecangnmnkejfaaProg.lean LOADS. Nothing in Lean hashes anything: it is a label: what it is worth is what the hold of that sum in a sandbox is worth. -/
noncomputable def Try.pinned : Pinned := { name := "ytecangnmnkejfaa", sum := "ae9cdb3d40af30e09730b00e4b57cb8635944404aa448ec6eb0c91137100ac16", checked := Try.checked }
namespace Rows
def none {H : Type} : Left H := { results := [], args := [] }

/-- 'lampwrightlaw.FibTells': WHATEVER THE INPUT: true; the input reads as it did. -/
def fibTellsSpec : ChangeSpec := { name := "fibTells", fn := fun _ => fun
  | [d1, d2, d3, d4, d5] => { results := [.lit (.bool true)], args := [d1, d2, d3, d4, d5] }
  | _ => none }
def fibTellsRow : OpenClaim := { program := "ytecangnmnkejfaa", sum := "ae9cdb3d40af30e09730b00e4b57cb8635944404aa448ec6eb0c91137100ac16", func := "lampwright/lampwrightlaw.FibTells", spec := "fibTells", recurses := true, apart := false }
def FibTellsSaid : Prop := fibTellsRow.holds Try.pinned (OpenSpec.ofChange fibTellsSpec)

/-- ITS FALSE NEIGHBOUR: 'it returns false'. Refute it at one input. -/
def fibTellsWrong : ChangeSpec := { name := "fibTells", fn := fun _ => fun
  | [d1, d2, d3, d4, d5] => { results := [.lit (.bool false)], args := [d1, d2, d3, d4, d5] }
  | _ => none }
def FibTellsWrongFalsely : Prop := fibTellsRow.holds Try.pinned (OpenSpec.ofChange fibTellsWrong)

/-- 'lampwrightlaw.FibOnly': WHATEVER THE INPUT: true; the input reads as it did. -/
def fibOnlySpec : ChangeSpec := { name := "fibOnly", fn := fun _ => fun
  | [d1, d2] => { results := [.lit (.bool true)], args := [d1, d2] }
  | _ => none }
def fibOnlyRow : OpenClaim := { program := "ytecangnmnkejfaa", sum := "ae9cdb3d40af30e09730b00e4b57cb8635944404aa448ec6eb0c91137100ac16", func := "lampwright/lampwrightlaw.FibOnly", spec := "fibOnly", apart := false }
def FibOnlySaid : Prop := fibOnlyRow.holds Try.pinned (OpenSpec.ofChange fibOnlySpec)

/-- ITS FALSE NEIGHBOUR: 'it returns false'. Refute it at one input. -/
def fibOnlyWrong : ChangeSpec := { name := "fibOnly", fn := fun _ => fun
  | [d1, d2] => { results := [.lit (.bool false)], args := [d1, d2] }
  | _ => none }
def FibOnlyWrongFalsely : Prop := fibOnlyRow.holds Try.pinned (OpenSpec.ofChange fibOnlyWrong)

/-- 'lampwrightlaw.FibLong': WHATEVER THE INPUT: true; the input reads as it did. -/
def fibLongSpec : ChangeSpec := { name := "fibLong", fn := fun _ => fun
  | [d1, d2] => { results := [.lit (.bool true)], args := [d1, d2] }
  | _ => none }
def fibLongRow : OpenClaim := { program := "ytecangnmnkejfaa", sum := "ae9cdb3d40af30e09730b00e4b57cb8635944404aa448ec6eb0c91137100ac16", func := "lampwright/lampwrightlaw.FibLong", spec := "fibLong", apart := false }
def FibLongSaid : Prop := fibLongRow.holds Try.pinned (OpenSpec.ofChange fibLongSpec)

/-- ITS FALSE NEIGHBOUR: 'it returns false'. Refute it at one input. -/
def fibLongWrong : ChangeSpec := { name := "fibLong", fn := fun _ => fun
  | [d1, d2] => { results := [.lit (.bool false)], args := [d1, d2] }
  | _ => none }
def FibLongWrongFalsely : Prop := fibLongRow.holds Try.pinned (OpenSpec.ofChange fibLongWrong)

/-- 'lampwrightlaw.FibNumbers': WHATEVER THE INPUT: true; the input reads as it did. -/
def fibNumbersSpec : ChangeSpec := { name := "fibNumbers", fn := fun _ => fun
  | [d] => { results := [.lit (.bool true)], args := [d] }
  | _ => none }
def fibNumbersRow : OpenClaim := { program := "ytecangnmnkejfaa", sum := "ae9cdb3d40af30e09730b00e4b57cb8635944404aa448ec6eb0c91137100ac16", func := "lampwright/lampwrightlaw.FibNumbers", spec := "fibNumbers", apart := false }
def FibNumbersSaid : Prop := fibNumbersRow.holds Try.pinned (OpenSpec.ofChange fibNumbersSpec)

/-- ITS FALSE NEIGHBOUR: 'it returns false'. Refute it at one input. -/
def fibNumbersWrong : ChangeSpec := { name := "fibNumbers", fn := fun _ => fun
  | [d] => { results := [.lit (.bool false)], args := [d] }
  | _ => none }
def FibNumbersWrongFalsely : Prop := fibNumbersRow.holds Try.pinned (OpenSpec.ofChange fibNumbersWrong)

/-- 'lampwrightlaw.FanoTells': WHATEVER THE INPUT: true; the input reads as it did. -/
def fanoTellsSpec : ChangeSpec := { name := "fanoTells", fn := fun _ => fun
  | [d1, d2, d3, d4] => { results := [.lit (.bool true)], args := [d1, d2, d3, d4] }
  | _ => none }
def fanoTellsRow : OpenClaim := { program := "ytecangnmnkejfaa", sum := "ae9cdb3d40af30e09730b00e4b57cb8635944404aa448ec6eb0c91137100ac16", func := "lampwright/lampwrightlaw.FanoTells", spec := "fanoTells", unfollowed := true, recurses := true, apart := false }
def FanoTellsSaid : Prop := fanoTellsRow.holds Try.pinned (OpenSpec.ofChange fanoTellsSpec)

/-- ITS FALSE NEIGHBOUR: 'it returns false'. Refute it at one input. -/
def fanoTellsWrong : ChangeSpec := { name := "fanoTells", fn := fun _ => fun
  | [d1, d2, d3, d4] => { results := [.lit (.bool false)], args := [d1, d2, d3, d4] }
  | _ => none }
def FanoTellsWrongFalsely : Prop := fanoTellsRow.holds Try.pinned (OpenSpec.ofChange fanoTellsWrong)

/-- 'lampwrightlaw.FanoBack': WHATEVER THE INPUT: true; the input reads as it did. -/
def fanoBackSpec : ChangeSpec := { name := "fanoBack", fn := fun _ => fun
  | [d1, d2, d3] => { results := [.lit (.bool true)], args := [d1, d2, d3] }
  | _ => none }
def fanoBackRow : OpenClaim := { program := "ytecangnmnkejfaa", sum := "ae9cdb3d40af30e09730b00e4b57cb8635944404aa448ec6eb0c91137100ac16", func := "lampwright/lampwrightlaw.FanoBack", spec := "fanoBack", unfollowed := true, recurses := true, apart := false }
def FanoBackSaid : Prop := fanoBackRow.holds Try.pinned (OpenSpec.ofChange fanoBackSpec)

/-- ITS FALSE NEIGHBOUR: 'it returns false'. Refute it at one input. -/
def fanoBackWrong : ChangeSpec := { name := "fanoBack", fn := fun _ => fun
  | [d1, d2, d3] => { results := [.lit (.bool false)], args := [d1, d2, d3] }
  | _ => none }
def FanoBackWrongFalsely : Prop := fanoBackRow.holds Try.pinned (OpenSpec.ofChange fanoBackWrong)

/-- 'lampwrightlaw.FanoRoom': WHATEVER THE INPUT: true; the input reads as it did. -/
def fanoRoomSpec : ChangeSpec := { name := "fanoRoom", fn := fun _ => fun
  | [d1, d2] => { results := [.lit (.bool true)], args := [d1, d2] }
  | _ => none }
def fanoRoomRow : OpenClaim := { program := "ytecangnmnkejfaa", sum := "ae9cdb3d40af30e09730b00e4b57cb8635944404aa448ec6eb0c91137100ac16", func := "lampwright/lampwrightlaw.FanoRoom", spec := "fanoRoom", unfollowed := true, recurses := true, apart := false }
def FanoRoomSaid : Prop := fanoRoomRow.holds Try.pinned (OpenSpec.ofChange fanoRoomSpec)

/-- ITS FALSE NEIGHBOUR: 'it returns false'. Refute it at one input. -/
def fanoRoomWrong : ChangeSpec := { name := "fanoRoom", fn := fun _ => fun
  | [d1, d2] => { results := [.lit (.bool false)], args := [d1, d2] }
  | _ => none }
def FanoRoomWrongFalsely : Prop := fanoRoomRow.holds Try.pinned (OpenSpec.ofChange fanoRoomWrong)

/-- 'lampwrightlaw.FanoNext': WHATEVER THE INPUT: true; the input reads as it did. -/
def fanoNextSpec : ChangeSpec := { name := "fanoNext", fn := fun _ => fun
  | [d1, d2, d3] => { results := [.lit (.bool true)], args := [d1, d2, d3] }
  | _ => none }
def fanoNextRow : OpenClaim := { program := "ytecangnmnkejfaa", sum := "ae9cdb3d40af30e09730b00e4b57cb8635944404aa448ec6eb0c91137100ac16", func := "lampwright/lampwrightlaw.FanoNext", spec := "fanoNext", unfollowed := true, recurses := true, apart := false }
def FanoNextSaid : Prop := fanoNextRow.holds Try.pinned (OpenSpec.ofChange fanoNextSpec)

/-- ITS FALSE NEIGHBOUR: 'it returns false'. Refute it at one input. -/
def fanoNextWrong : ChangeSpec := { name := "fanoNext", fn := fun _ => fun
  | [d1, d2, d3] => { results := [.lit (.bool false)], args := [d1, d2, d3] }
  | _ => none }
def FanoNextWrongFalsely : Prop := fanoNextRow.holds Try.pinned (OpenSpec.ofChange fanoNextWrong)

/-- 'lampwrightlaw.FanoSame': WHATEVER THE INPUT: true; the input reads as it did. -/
def fanoSameSpec : ChangeSpec := { name := "fanoSame", fn := fun _ => fun
  | [d1, d2, d3] => { results := [.lit (.bool true)], args := [d1, d2, d3] }
  | _ => none }
def fanoSameRow : OpenClaim := { program := "ytecangnmnkejfaa", sum := "ae9cdb3d40af30e09730b00e4b57cb8635944404aa448ec6eb0c91137100ac16", func := "lampwright/lampwrightlaw.FanoSame", spec := "fanoSame", unfollowed := true, recurses := true, apart := false }
def FanoSameSaid : Prop := fanoSameRow.holds Try.pinned (OpenSpec.ofChange fanoSameSpec)

/-- ITS FALSE NEIGHBOUR: 'it returns false'. Refute it at one input. -/
def fanoSameWrong : ChangeSpec := { name := "fanoSame", fn := fun _ => fun
  | [d1, d2, d3] => { results := [.lit (.bool false)], args := [d1, d2, d3] }
  | _ => none }
def FanoSameWrongFalsely : Prop := fanoSameRow.holds Try.pinned (OpenSpec.ofChange fanoSameWrong)

/-- 'lampwrightlaw.FibBack': WHATEVER THE INPUT: true; the input reads as it did. -/
def fibBackSpec : ChangeSpec := { name := "fibBack", fn := fun _ => fun
  | [d1, d2] => { results := [.lit (.bool true)], args := [d1, d2] }
  | _ => none }
def fibBackRow : OpenClaim := { program := "ytecangnmnkejfaa", sum := "ae9cdb3d40af30e09730b00e4b57cb8635944404aa448ec6eb0c91137100ac16", func := "lampwright/lampwrightlaw.FibBack", spec := "fibBack", unfollowed := true, recurses := true, apart := false }
def FibBackSaid : Prop := fibBackRow.holds Try.pinned (OpenSpec.ofChange fibBackSpec)

/-- ITS FALSE NEIGHBOUR: 'it returns false'. Refute it at one input. -/
def fibBackWrong : ChangeSpec := { name := "fibBack", fn := fun _ => fun
  | [d1, d2] => { results := [.lit (.bool false)], args := [d1, d2] }
  | _ => none }
def FibBackWrongFalsely : Prop := fibBackRow.holds Try.pinned (OpenSpec.ofChange fibBackWrong)

/-- 'lampwrightlaw.FibNext': WHATEVER THE INPUT: true; the input reads as it did. -/
def fibNextSpec : ChangeSpec := { name := "fibNext", fn := fun _ => fun
  | [d1, d2, d3] => { results := [.lit (.bool true)], args := [d1, d2, d3] }
  | _ => none }
def fibNextRow : OpenClaim := { program := "ytecangnmnkejfaa", sum := "ae9cdb3d40af30e09730b00e4b57cb8635944404aa448ec6eb0c91137100ac16", func := "lampwright/lampwrightlaw.FibNext", spec := "fibNext", unfollowed := true, recurses := true, apart := false }
def FibNextSaid : Prop := fibNextRow.holds Try.pinned (OpenSpec.ofChange fibNextSpec)

/-- ITS FALSE NEIGHBOUR: 'it returns false'. Refute it at one input. -/
def fibNextWrong : ChangeSpec := { name := "fibNext", fn := fun _ => fun
  | [d1, d2, d3] => { results := [.lit (.bool false)], args := [d1, d2, d3] }
  | _ => none }
def FibNextWrongFalsely : Prop := fibNextRow.holds Try.pinned (OpenSpec.ofChange fibNextWrong)

/-- 'lampwrightlaw.FanoGet': WHATEVER THE INPUT: true; the input reads as it did. -/
def fanoGetSpec : ChangeSpec := { name := "fanoGet", fn := fun _ => fun
  | [d1, d2, d3] => { results := [.lit (.bool true)], args := [d1, d2, d3] }
  | _ => none }
def fanoGetRow : OpenClaim := { program := "ytecangnmnkejfaa", sum := "ae9cdb3d40af30e09730b00e4b57cb8635944404aa448ec6eb0c91137100ac16", func := "lampwright/lampwrightlaw.FanoGet", spec := "fanoGet", unfollowed := true, recurses := true, apart := false }
def FanoGetSaid : Prop := fanoGetRow.holds Try.pinned (OpenSpec.ofChange fanoGetSpec)

/-- ITS FALSE NEIGHBOUR: 'it returns false'. Refute it at one input. -/
def fanoGetWrong : ChangeSpec := { name := "fanoGet", fn := fun _ => fun
  | [d1, d2, d3] => { results := [.lit (.bool false)], args := [d1, d2, d3] }
  | _ => none }
def FanoGetWrongFalsely : Prop := fanoGetRow.holds Try.pinned (OpenSpec.ofChange fanoGetWrong)

/- THE SECOND FORM. 'bulk': how many values and letters a reading holds, each counted each time it is reached (what is shared counts as often as it is met; a slice's spare places count too). A statement '..UptoSaid' is the law's where the arguments, and the package variables that the reading takes, are together of bulk at most 1048576: NARROWER than '..Said'. Prove '..Said' where nothing that the law and all that it calls make is longer than what came in: it says more and counts as full. Else prove '..UptoSaid'. A law counts once. -/
mutual
def uptoBulk {H : Type} : DataW H → Nat
  | .lit (.string bytes) => bytes.length + 1
  | .lit _ => 1
  | .nil => 1
  | .ptr d => uptoBulk d + 1
  | .slice elems spare => uptoBulkAll elems + uptoBulkAll spare + 1
  | .agg parts => uptoBulkAll parts + 1
  | .iface _ d => uptoBulk d + 1
  | .map entries => uptoBulkEntries entries + 1
  | .held _ => 1
def uptoBulkAll {H : Type} : List (DataW H) → Nat
  | [] => 0
  | d :: r => uptoBulk d + uptoBulkAll r
def uptoBulkEntries {H : Type} : List (Lit × DataW H) → Nat
  | [] => 0
  | x :: r => uptoBulkEntry x + uptoBulkEntries r
def uptoBulkEntry {H : Type} : Lit × DataW H → Nat
  | (.string bytes, d) => bytes.length + uptoBulk d + 1
  | (_, d) => uptoBulk d + 1
 end
def uptoSmall : (H : Type) → List (DataW H) → Bool := fun _ ds => decide (uptoBulkAll ds ≤ 1048576)
def OpenSpec.upto (s : _root_.Go.ChangeSpec) : _root_.Go.OpenSpec := { _root_.Go.OpenSpec.ofChange s with cond := some uptoSmall }

/-- 'lampwrightlaw.FibTells', WHERE WHAT IT READS IS OF BULK AT MOST 1048576: true; the input reads as it did. -/
def fibTellsUptoRow : OpenClaim := { program := "ytecangnmnkejfaa", sum := "ae9cdb3d40af30e09730b00e4b57cb8635944404aa448ec6eb0c91137100ac16", func := "lampwright/lampwrightlaw.FibTells", spec := "fibTells", recurses := true, apart := false, narrowed := true }
def FibTellsUptoSaid : Prop := fibTellsUptoRow.holds Try.pinned (OpenSpec.upto fibTellsSpec)

/-- 'lampwrightlaw.FibOnly', WHERE WHAT IT READS IS OF BULK AT MOST 1048576: true; the input reads as it did. -/
def fibOnlyUptoRow : OpenClaim := { program := "ytecangnmnkejfaa", sum := "ae9cdb3d40af30e09730b00e4b57cb8635944404aa448ec6eb0c91137100ac16", func := "lampwright/lampwrightlaw.FibOnly", spec := "fibOnly", apart := false, narrowed := true }
def FibOnlyUptoSaid : Prop := fibOnlyUptoRow.holds Try.pinned (OpenSpec.upto fibOnlySpec)

/-- 'lampwrightlaw.FibLong', WHERE WHAT IT READS IS OF BULK AT MOST 1048576: true; the input reads as it did. -/
def fibLongUptoRow : OpenClaim := { program := "ytecangnmnkejfaa", sum := "ae9cdb3d40af30e09730b00e4b57cb8635944404aa448ec6eb0c91137100ac16", func := "lampwright/lampwrightlaw.FibLong", spec := "fibLong", apart := false, narrowed := true }
def FibLongUptoSaid : Prop := fibLongUptoRow.holds Try.pinned (OpenSpec.upto fibLongSpec)

/-- 'lampwrightlaw.FibNumbers', WHERE WHAT IT READS IS OF BULK AT MOST 1048576: true; the input reads as it did. -/
def fibNumbersUptoRow : OpenClaim := { program := "ytecangnmnkejfaa", sum := "ae9cdb3d40af30e09730b00e4b57cb8635944404aa448ec6eb0c91137100ac16", func := "lampwright/lampwrightlaw.FibNumbers", spec := "fibNumbers", apart := false, narrowed := true }
def FibNumbersUptoSaid : Prop := fibNumbersUptoRow.holds Try.pinned (OpenSpec.upto fibNumbersSpec)

/-- 'lampwrightlaw.FanoTells', WHERE WHAT IT READS IS OF BULK AT MOST 1048576: true; the input reads as it did. -/
def fanoTellsUptoRow : OpenClaim := { program := "ytecangnmnkejfaa", sum := "ae9cdb3d40af30e09730b00e4b57cb8635944404aa448ec6eb0c91137100ac16", func := "lampwright/lampwrightlaw.FanoTells", spec := "fanoTells", unfollowed := true, recurses := true, apart := false, narrowed := true }
def FanoTellsUptoSaid : Prop := fanoTellsUptoRow.holds Try.pinned (OpenSpec.upto fanoTellsSpec)

/-- 'lampwrightlaw.FanoBack', WHERE WHAT IT READS IS OF BULK AT MOST 1048576: true; the input reads as it did. -/
def fanoBackUptoRow : OpenClaim := { program := "ytecangnmnkejfaa", sum := "ae9cdb3d40af30e09730b00e4b57cb8635944404aa448ec6eb0c91137100ac16", func := "lampwright/lampwrightlaw.FanoBack", spec := "fanoBack", unfollowed := true, recurses := true, apart := false, narrowed := true }
def FanoBackUptoSaid : Prop := fanoBackUptoRow.holds Try.pinned (OpenSpec.upto fanoBackSpec)

/-- 'lampwrightlaw.FanoRoom', WHERE WHAT IT READS IS OF BULK AT MOST 1048576: true; the input reads as it did. -/
def fanoRoomUptoRow : OpenClaim := { program := "ytecangnmnkejfaa", sum := "ae9cdb3d40af30e09730b00e4b57cb8635944404aa448ec6eb0c91137100ac16", func := "lampwright/lampwrightlaw.FanoRoom", spec := "fanoRoom", unfollowed := true, recurses := true, apart := false, narrowed := true }
def FanoRoomUptoSaid : Prop := fanoRoomUptoRow.holds Try.pinned (OpenSpec.upto fanoRoomSpec)

/-- 'lampwrightlaw.FanoNext', WHERE WHAT IT READS IS OF BULK AT MOST 1048576: true; the input reads as it did. -/
def fanoNextUptoRow : OpenClaim := { program := "ytecangnmnkejfaa", sum := "ae9cdb3d40af30e09730b00e4b57cb8635944404aa448ec6eb0c91137100ac16", func := "lampwright/lampwrightlaw.FanoNext", spec := "fanoNext", unfollowed := true, recurses := true, apart := false, narrowed := true }
def FanoNextUptoSaid : Prop := fanoNextUptoRow.holds Try.pinned (OpenSpec.upto fanoNextSpec)

/-- 'lampwrightlaw.FanoSame', WHERE WHAT IT READS IS OF BULK AT MOST 1048576: true; the input reads as it did. -/
def fanoSameUptoRow : OpenClaim := { program := "ytecangnmnkejfaa", sum := "ae9cdb3d40af30e09730b00e4b57cb8635944404aa448ec6eb0c91137100ac16", func := "lampwright/lampwrightlaw.FanoSame", spec := "fanoSame", unfollowed := true, recurses := true, apart := false, narrowed := true }
def FanoSameUptoSaid : Prop := fanoSameUptoRow.holds Try.pinned (OpenSpec.upto fanoSameSpec)

/-- 'lampwrightlaw.FibBack', WHERE WHAT IT READS IS OF BULK AT MOST 1048576: true; the input reads as it did. -/
def fibBackUptoRow : OpenClaim := { program := "ytecangnmnkejfaa", sum := "ae9cdb3d40af30e09730b00e4b57cb8635944404aa448ec6eb0c91137100ac16", func := "lampwright/lampwrightlaw.FibBack", spec := "fibBack", unfollowed := true, recurses := true, apart := false, narrowed := true }
def FibBackUptoSaid : Prop := fibBackUptoRow.holds Try.pinned (OpenSpec.upto fibBackSpec)

/-- 'lampwrightlaw.FibNext', WHERE WHAT IT READS IS OF BULK AT MOST 1048576: true; the input reads as it did. -/
def fibNextUptoRow : OpenClaim := { program := "ytecangnmnkejfaa", sum := "ae9cdb3d40af30e09730b00e4b57cb8635944404aa448ec6eb0c91137100ac16", func := "lampwright/lampwrightlaw.FibNext", spec := "fibNext", unfollowed := true, recurses := true, apart := false, narrowed := true }
def FibNextUptoSaid : Prop := fibNextUptoRow.holds Try.pinned (OpenSpec.upto fibNextSpec)

/-- 'lampwrightlaw.FanoGet', WHERE WHAT IT READS IS OF BULK AT MOST 1048576: true; the input reads as it did. -/
def fanoGetUptoRow : OpenClaim := { program := "ytecangnmnkejfaa", sum := "ae9cdb3d40af30e09730b00e4b57cb8635944404aa448ec6eb0c91137100ac16", func := "lampwright/lampwrightlaw.FanoGet", spec := "fanoGet", unfollowed := true, recurses := true, apart := false, narrowed := true }
def FanoGetUptoSaid : Prop := fanoGetUptoRow.holds Try.pinned (OpenSpec.upto fanoGetSpec)

end Rows
end Go.Proofs.Ytecangnmnkejfaa
