/-
  No cell of these rows narrows 'for every input' (looked for: loops, veiled, ifaces, maps, wideKeys, modest, calm, conditions, laid).
  DERIVED. THE GIVEN ROWS OF THIS SEAT. 7 by the template 'for every input the law returns true; each argument reads behind the call as it read before'; 0 by the template 'total and deterministic' (their statements: YtinpmgkbgcccmaaTotals.lean).
  GIVEN WITH THE SEED: the statements are not yours to turn. If you find one false, say at which input.
  Laid BY PROGRAM, IN A SANDBOX (cutbox-rows.mjs): the forced cells as the released guide's own fill.sh prints them over the translation 57be020172cb9f52… (all of the seat's roots in one cut). By AI agents, Wed Nov 11 2026. No macro, syntax, notation, axiom, sorry.
-/
import Derived.Test.YtinpmgkbgcccmaaChecked
import GoSem.Claim
import GoSem.ClaimJoined
import GoSem.ClaimMapViews
import Derived.JoinedTies
import Derived.KernelRfl
namespace Go.Proofs.Ytinpmgkbgcccmaa
/- THE CELL 'sum', in the pinned program and in every row, IS THE sha256 OF THE DUMP (.gsa) THAT YtinpmgkbgcccmaaProg.lean LOADS. Nothing in Lean hashes anything: it is a label: what it is worth is what the hold of that sum in a sandbox is worth. -/
noncomputable def Try.pinned : Pinned := { name := "ytinpmgkbgcccmaa", sum := "57be020172cb9f52ba6e0d0dbe5901a0c8ac0f91d4f8cc04a9b45ce1e01e60fd", checked := Try.checked }
namespace Rows
def none {H : Type} : Left H := { results := [], args := [] }

/-- 'lampwrightlaw.KraftTells': WHATEVER THE INPUT: true; the input reads as it did. -/
def kraftTellsSpec : ChangeSpec := { name := "kraftTells", fn := fun _ => fun
  | [d1, d2, d3, d4] => { results := [.lit (.bool true)], args := [d1, d2, d3, d4] }
  | _ => none }
def kraftTellsRow : OpenClaim := { program := "ytinpmgkbgcccmaa", sum := "57be020172cb9f52ba6e0d0dbe5901a0c8ac0f91d4f8cc04a9b45ce1e01e60fd", func := "lampwright/lampwrightlaw.KraftTells", spec := "kraftTells", unfollowed := true, recurses := true, apart := false }
def KraftTellsSaid : Prop := kraftTellsRow.holds Try.pinned (OpenSpec.ofChange kraftTellsSpec)

/-- ITS FALSE NEIGHBOUR: 'it returns false'. Refute it at one input. -/
def kraftTellsWrong : ChangeSpec := { name := "kraftTells", fn := fun _ => fun
  | [d1, d2, d3, d4] => { results := [.lit (.bool false)], args := [d1, d2, d3, d4] }
  | _ => none }
def KraftTellsWrongFalsely : Prop := kraftTellsRow.holds Try.pinned (OpenSpec.ofChange kraftTellsWrong)

/-- 'lampwrightlaw.KraftCodes': WHATEVER THE INPUT: true; the input reads as it did. -/
def kraftCodesSpec : ChangeSpec := { name := "kraftCodes", fn := fun _ => fun
  | [d] => { results := [.lit (.bool true)], args := [d] }
  | _ => none }
def kraftCodesRow : OpenClaim := { program := "ytinpmgkbgcccmaa", sum := "57be020172cb9f52ba6e0d0dbe5901a0c8ac0f91d4f8cc04a9b45ce1e01e60fd", func := "lampwright/lampwrightlaw.KraftCodes", spec := "kraftCodes", unfollowed := true, recurses := true, apart := false }
def KraftCodesSaid : Prop := kraftCodesRow.holds Try.pinned (OpenSpec.ofChange kraftCodesSpec)

/-- ITS FALSE NEIGHBOUR: 'it returns false'. Refute it at one input. -/
def kraftCodesWrong : ChangeSpec := { name := "kraftCodes", fn := fun _ => fun
  | [d] => { results := [.lit (.bool false)], args := [d] }
  | _ => none }
def KraftCodesWrongFalsely : Prop := kraftCodesRow.holds Try.pinned (OpenSpec.ofChange kraftCodesWrong)

/-- 'lampwrightlaw.KraftMust': WHATEVER THE INPUT: true; the input reads as it did. -/
def kraftMustSpec : ChangeSpec := { name := "kraftMust", fn := fun _ => fun
  | [d] => { results := [.lit (.bool true)], args := [d] }
  | _ => none }
def kraftMustRow : OpenClaim := { program := "ytinpmgkbgcccmaa", sum := "57be020172cb9f52ba6e0d0dbe5901a0c8ac0f91d4f8cc04a9b45ce1e01e60fd", func := "lampwright/lampwrightlaw.KraftMust", spec := "kraftMust", unfollowed := true, recurses := true, apart := false }
def KraftMustSaid : Prop := kraftMustRow.holds Try.pinned (OpenSpec.ofChange kraftMustSpec)

/-- ITS FALSE NEIGHBOUR: 'it returns false'. Refute it at one input. -/
def kraftMustWrong : ChangeSpec := { name := "kraftMust", fn := fun _ => fun
  | [d] => { results := [.lit (.bool false)], args := [d] }
  | _ => none }
def KraftMustWrongFalsely : Prop := kraftMustRow.holds Try.pinned (OpenSpec.ofChange kraftMustWrong)

/-- 'lampwrightlaw.KraftFull': WHATEVER THE INPUT: true; the input reads as it did. -/
def kraftFullSpec : ChangeSpec := { name := "kraftFull", fn := fun _ => fun
  | [d1, d2] => { results := [.lit (.bool true)], args := [d1, d2] }
  | _ => none }
def kraftFullRow : OpenClaim := { program := "ytinpmgkbgcccmaa", sum := "57be020172cb9f52ba6e0d0dbe5901a0c8ac0f91d4f8cc04a9b45ce1e01e60fd", func := "lampwright/lampwrightlaw.KraftFull", spec := "kraftFull", unfollowed := true, recurses := true, apart := false }
def KraftFullSaid : Prop := kraftFullRow.holds Try.pinned (OpenSpec.ofChange kraftFullSpec)

/-- ITS FALSE NEIGHBOUR: 'it returns false'. Refute it at one input. -/
def kraftFullWrong : ChangeSpec := { name := "kraftFull", fn := fun _ => fun
  | [d1, d2] => { results := [.lit (.bool false)], args := [d1, d2] }
  | _ => none }
def KraftFullWrongFalsely : Prop := kraftFullRow.holds Try.pinned (OpenSpec.ofChange kraftFullWrong)

/-- 'lampwrightlaw.KraftTurn': WHATEVER THE INPUT: true; the input reads as it did. -/
def kraftTurnSpec : ChangeSpec := { name := "kraftTurn", fn := fun _ => fun
  | [d1, d2] => { results := [.lit (.bool true)], args := [d1, d2] }
  | _ => none }
def kraftTurnRow : OpenClaim := { program := "ytinpmgkbgcccmaa", sum := "57be020172cb9f52ba6e0d0dbe5901a0c8ac0f91d4f8cc04a9b45ce1e01e60fd", func := "lampwright/lampwrightlaw.KraftTurn", spec := "kraftTurn", unfollowed := true, recurses := true, apart := false }
def KraftTurnSaid : Prop := kraftTurnRow.holds Try.pinned (OpenSpec.ofChange kraftTurnSpec)

/-- ITS FALSE NEIGHBOUR: 'it returns false'. Refute it at one input. -/
def kraftTurnWrong : ChangeSpec := { name := "kraftTurn", fn := fun _ => fun
  | [d1, d2] => { results := [.lit (.bool false)], args := [d1, d2] }
  | _ => none }
def KraftTurnWrongFalsely : Prop := kraftTurnRow.holds Try.pinned (OpenSpec.ofChange kraftTurnWrong)

/-- 'lampwrightlaw.KraftBack': WHATEVER THE INPUT: true; the input reads as it did. -/
def kraftBackSpec : ChangeSpec := { name := "kraftBack", fn := fun _ => fun
  | [d1, d2] => { results := [.lit (.bool true)], args := [d1, d2] }
  | _ => none }
def kraftBackRow : OpenClaim := { program := "ytinpmgkbgcccmaa", sum := "57be020172cb9f52ba6e0d0dbe5901a0c8ac0f91d4f8cc04a9b45ce1e01e60fd", func := "lampwright/lampwrightlaw.KraftBack", spec := "kraftBack", unfollowed := true, recurses := true, apart := false }
def KraftBackSaid : Prop := kraftBackRow.holds Try.pinned (OpenSpec.ofChange kraftBackSpec)

/-- ITS FALSE NEIGHBOUR: 'it returns false'. Refute it at one input. -/
def kraftBackWrong : ChangeSpec := { name := "kraftBack", fn := fun _ => fun
  | [d1, d2] => { results := [.lit (.bool false)], args := [d1, d2] }
  | _ => none }
def KraftBackWrongFalsely : Prop := kraftBackRow.holds Try.pinned (OpenSpec.ofChange kraftBackWrong)

/-- 'lampwrightlaw.KraftOrder': WHATEVER THE INPUT: true; the input reads as it did. -/
def kraftOrderSpec : ChangeSpec := { name := "kraftOrder", fn := fun _ => fun
  | [d1, d2, d3] => { results := [.lit (.bool true)], args := [d1, d2, d3] }
  | _ => none }
def kraftOrderRow : OpenClaim := { program := "ytinpmgkbgcccmaa", sum := "57be020172cb9f52ba6e0d0dbe5901a0c8ac0f91d4f8cc04a9b45ce1e01e60fd", func := "lampwright/lampwrightlaw.KraftOrder", spec := "kraftOrder", unfollowed := true, recurses := true, apart := false }
def KraftOrderSaid : Prop := kraftOrderRow.holds Try.pinned (OpenSpec.ofChange kraftOrderSpec)

/-- ITS FALSE NEIGHBOUR: 'it returns false'. Refute it at one input. -/
def kraftOrderWrong : ChangeSpec := { name := "kraftOrder", fn := fun _ => fun
  | [d1, d2, d3] => { results := [.lit (.bool false)], args := [d1, d2, d3] }
  | _ => none }
def KraftOrderWrongFalsely : Prop := kraftOrderRow.holds Try.pinned (OpenSpec.ofChange kraftOrderWrong)

/- THE SECOND FORM. 'bulk': how many values and letters a reading holds, each counted each time it is reached (what is shared counts as often as it is met; a slice's spare places count too). A statement '..UptoSaid' is the law's where the arguments, and the package variables that the reading takes, are together of bulk at most 1048576: NARROWER than '..Said'. Prove '..Said' where nothing that the law and all that it calls make is longer than what came in: it says more and counts as full. Else prove '..UptoSaid'. A law counts once. -/
mutual
def uptoBulk {H : Type} : DataW H → Nat
  | .lit (.string bytes) => bytes.length + 1
  | .lit _ => 1
  | .nil => 1
  | .ptr d => uptoBulk d + 1
  | .slice elems spare => uptoBulkAll elems + uptoBulkAll spare + 1
  | .agg parts => uptoBulkAll parts + 1
  | .iface _ d => uptoBulk d + 1
  | .map entries => uptoBulkEntries entries + 1
  | .held _ => 1
def uptoBulkAll {H : Type} : List (DataW H) → Nat
  | [] => 0
  | d :: r => uptoBulk d + uptoBulkAll r
def uptoBulkEntries {H : Type} : List (Lit × DataW H) → Nat
  | [] => 0
  | x :: r => uptoBulkEntry x + uptoBulkEntries r
def uptoBulkEntry {H : Type} : Lit × DataW H → Nat
  | (.string bytes, d) => bytes.length + uptoBulk d + 1
  | (_, d) => uptoBulk d + 1
 end
def uptoSmall : (H : Type) → List (DataW H) → Bool := fun _ ds => decide (uptoBulkAll ds ≤ 1048576)
def OpenSpec.upto (s : _root_.Go.ChangeSpec) : _root_.Go.OpenSpec := { _root_.Go.OpenSpec.ofChange s with cond := some uptoSmall }

/-- 'lampwrightlaw.KraftTells', WHERE WHAT IT READS IS OF BULK AT MOST 1048576: true; the input reads as it did. -/
def kraftTellsUptoRow : OpenClaim := { program := "ytinpmgkbgcccmaa", sum := "57be020172cb9f52ba6e0d0dbe5901a0c8ac0f91d4f8cc04a9b45ce1e01e60fd", func := "lampwright/lampwrightlaw.KraftTells", spec := "kraftTells", unfollowed := true, recurses := true, apart := false, narrowed := true }
def KraftTellsUptoSaid : Prop := kraftTellsUptoRow.holds Try.pinned (OpenSpec.upto kraftTellsSpec)

/-- 'lampwrightlaw.KraftCodes', WHERE WHAT IT READS IS OF BULK AT MOST 1048576: true; the input reads as it did. -/
def kraftCodesUptoRow : OpenClaim := { program := "ytinpmgkbgcccmaa", sum := "57be020172cb9f52ba6e0d0dbe5901a0c8ac0f91d4f8cc04a9b45ce1e01e60fd", func := "lampwright/lampwrightlaw.KraftCodes", spec := "kraftCodes", unfollowed := true, recurses := true, apart := false, narrowed := true }
def KraftCodesUptoSaid : Prop := kraftCodesUptoRow.holds Try.pinned (OpenSpec.upto kraftCodesSpec)

/-- 'lampwrightlaw.KraftMust', WHERE WHAT IT READS IS OF BULK AT MOST 1048576: true; the input reads as it did. -/
def kraftMustUptoRow : OpenClaim := { program := "ytinpmgkbgcccmaa", sum := "57be020172cb9f52ba6e0d0dbe5901a0c8ac0f91d4f8cc04a9b45ce1e01e60fd", func := "lampwright/lampwrightlaw.KraftMust", spec := "kraftMust", unfollowed := true, recurses := true, apart := false, narrowed := true }
def KraftMustUptoSaid : Prop := kraftMustUptoRow.holds Try.pinned (OpenSpec.upto kraftMustSpec)

/-- 'lampwrightlaw.KraftFull', WHERE WHAT IT READS IS OF BULK AT MOST 1048576: true; the input reads as it did. -/
def kraftFullUptoRow : OpenClaim := { program := "ytinpmgkbgcccmaa", sum := "57be020172cb9f52ba6e0d0dbe5901a0c8ac0f91d4f8cc04a9b45ce1e01e60fd", func := "lampwright/lampwrightlaw.KraftFull", spec := "kraftFull", unfollowed := true, recurses := true, apart := false, narrowed := true }
def KraftFullUptoSaid : Prop := kraftFullUptoRow.holds Try.pinned (OpenSpec.upto kraftFullSpec)

/-- 'lampwrightlaw.KraftTurn', WHERE WHAT IT READS IS OF BULK AT MOST 1048576: true; the input reads as it did. -/
def kraftTurnUptoRow : OpenClaim := { program := "ytinpmgkbgcccmaa", sum := "57be020172cb9f52ba6e0d0dbe5901a0c8ac0f91d4f8cc04a9b45ce1e01e60fd", func := "lampwright/lampwrightlaw.KraftTurn", spec := "kraftTurn", unfollowed := true, recurses := true, apart := false, narrowed := true }
def KraftTurnUptoSaid : Prop := kraftTurnUptoRow.holds Try.pinned (OpenSpec.upto kraftTurnSpec)

/-- 'lampwrightlaw.KraftBack', WHERE WHAT IT READS IS OF BULK AT MOST 1048576: true; the input reads as it did. -/
def kraftBackUptoRow : OpenClaim := { program := "ytinpmgkbgcccmaa", sum := "57be020172cb9f52ba6e0d0dbe5901a0c8ac0f91d4f8cc04a9b45ce1e01e60fd", func := "lampwright/lampwrightlaw.KraftBack", spec := "kraftBack", unfollowed := true, recurses := true, apart := false, narrowed := true }
def KraftBackUptoSaid : Prop := kraftBackUptoRow.holds Try.pinned (OpenSpec.upto kraftBackSpec)

/-- 'lampwrightlaw.KraftOrder', WHERE WHAT IT READS IS OF BULK AT MOST 1048576: true; the input reads as it did. -/
def kraftOrderUptoRow : OpenClaim := { program := "ytinpmgkbgcccmaa", sum := "57be020172cb9f52ba6e0d0dbe5901a0c8ac0f91d4f8cc04a9b45ce1e01e60fd", func := "lampwright/lampwrightlaw.KraftOrder", spec := "kraftOrder", unfollowed := true, recurses := true, apart := false, narrowed := true }
def KraftOrderUptoSaid : Prop := kraftOrderUptoRow.holds Try.pinned (OpenSpec.upto kraftOrderSpec)

end Rows
end Go.Proofs.Ytinpmgkbgcccmaa
