/-
  No cell of these rows narrows 'for every input' (looked for: loops, veiled, ifaces, maps, wideKeys, modest, calm, conditions, laid).
  DERIVED. THE GIVEN ROWS OF THIS SEAT. 5 by the template 'for every input the law returns true; each argument reads behind the call as it read before'; 0 by the template 'total and deterministic' (their statements: YtidnfcdnhdbolaaTotals.lean).
  GIVEN WITH THE SEED: the statements are not yours to turn. If you find one false, say at which input.
  Laid BY PROGRAM, IN A SANDBOX (cutbox-rows.mjs): the forced cells as the released guide's own fill.sh prints them over the translation fcec940a8818ae57… (all of the seat's roots in one cut). By AI agents, Wed Nov 11 2026. No macro, syntax, notation, axiom, sorry.
-/
import Derived.Test.YtidnfcdnhdbolaaChecked
import GoSem.Claim
import GoSem.ClaimJoined
import GoSem.ClaimMapViews
import Derived.JoinedTies
import Derived.KernelRfl
namespace Go.Proofs.Ytidnfcdnhdbolaa
/- THE CELL 'sum', in the pinned program and in every row, IS THE sha256 OF THE DUMP (.gsa) THAT YtidnfcdnhdbolaaProg.lean LOADS. Nothing in Lean hashes anything: it is a label: what it is worth is what the hold of that sum in a sandbox is worth. -/
noncomputable def Try.pinned : Pinned := { name := "ytidnfcdnhdbolaa", sum := "fcec940a8818ae57eb4edb4911f0be4e08535fa02f032ef626608c687f6348d2", checked := Try.checked }
namespace Rows
def none {H : Type} : Left H := { results := [], args := [] }

/-- 'lampwrightlaw.SuccShift': WHATEVER THE INPUT: true; the input reads as it did. -/
def succShiftSpec : ChangeSpec := { name := "succShift", fn := fun _ => fun
  | [d1, d2, d3, d4, d5] => { results := [.lit (.bool true)], args := [d1, d2, d3, d4, d5] }
  | _ => none }
def succShiftRow : OpenClaim := { program := "ytidnfcdnhdbolaa", sum := "fcec940a8818ae57eb4edb4911f0be4e08535fa02f032ef626608c687f6348d2", func := "lampwright/lampwrightlaw.SuccShift", spec := "succShift", unfollowed := true, recurses := true, apart := false }
def SuccShiftSaid : Prop := succShiftRow.holds Try.pinned (OpenSpec.ofChange succShiftSpec)

/-- ITS FALSE NEIGHBOUR: 'it returns false'. Refute it at one input. -/
def succShiftWrong : ChangeSpec := { name := "succShift", fn := fun _ => fun
  | [d1, d2, d3, d4, d5] => { results := [.lit (.bool false)], args := [d1, d2, d3, d4, d5] }
  | _ => none }
def SuccShiftWrongFalsely : Prop := succShiftRow.holds Try.pinned (OpenSpec.ofChange succShiftWrong)

/-- 'lampwrightlaw.SuccCopy': WHATEVER THE INPUT: true; the input reads as it did. -/
def succCopySpec : ChangeSpec := { name := "succCopy", fn := fun _ => fun
  | [d1, d2, d3] => { results := [.lit (.bool true)], args := [d1, d2, d3] }
  | _ => none }
def succCopyRow : OpenClaim := { program := "ytidnfcdnhdbolaa", sum := "fcec940a8818ae57eb4edb4911f0be4e08535fa02f032ef626608c687f6348d2", func := "lampwright/lampwrightlaw.SuccCopy", spec := "succCopy", unfollowed := true, recurses := true, apart := false }
def SuccCopySaid : Prop := succCopyRow.holds Try.pinned (OpenSpec.ofChange succCopySpec)

/-- ITS FALSE NEIGHBOUR: 'it returns false'. Refute it at one input. -/
def succCopyWrong : ChangeSpec := { name := "succCopy", fn := fun _ => fun
  | [d1, d2, d3] => { results := [.lit (.bool false)], args := [d1, d2, d3] }
  | _ => none }
def SuccCopyWrongFalsely : Prop := succCopyRow.holds Try.pinned (OpenSpec.ofChange succCopyWrong)

/-- 'lampwrightlaw.SuccBack': WHATEVER THE INPUT: true; the input reads as it did. -/
def succBackSpec : ChangeSpec := { name := "succBack", fn := fun _ => fun
  | [d1, d2, d3, d4, d5, d6] => { results := [.lit (.bool true)], args := [d1, d2, d3, d4, d5, d6] }
  | _ => none }
def succBackRow : OpenClaim := { program := "ytidnfcdnhdbolaa", sum := "fcec940a8818ae57eb4edb4911f0be4e08535fa02f032ef626608c687f6348d2", func := "lampwright/lampwrightlaw.SuccBack", spec := "succBack", unfollowed := true, recurses := true, apart := false }
def SuccBackSaid : Prop := succBackRow.holds Try.pinned (OpenSpec.ofChange succBackSpec)

/-- ITS FALSE NEIGHBOUR: 'it returns false'. Refute it at one input. -/
def succBackWrong : ChangeSpec := { name := "succBack", fn := fun _ => fun
  | [d1, d2, d3, d4, d5, d6] => { results := [.lit (.bool false)], args := [d1, d2, d3, d4, d5, d6] }
  | _ => none }
def SuccBackWrongFalsely : Prop := succBackRow.holds Try.pinned (OpenSpec.ofChange succBackWrong)

/-- 'lampwrightlaw.SuccOnly': WHATEVER THE INPUT: true; the input reads as it did. -/
def succOnlySpec : ChangeSpec := { name := "succOnly", fn := fun _ => fun
  | [d1, d2, d3, d4, d5] => { results := [.lit (.bool true)], args := [d1, d2, d3, d4, d5] }
  | _ => none }
def succOnlyRow : OpenClaim := { program := "ytidnfcdnhdbolaa", sum := "fcec940a8818ae57eb4edb4911f0be4e08535fa02f032ef626608c687f6348d2", func := "lampwright/lampwrightlaw.SuccOnly", spec := "succOnly", unfollowed := true, recurses := true, apart := false }
def SuccOnlySaid : Prop := succOnlyRow.holds Try.pinned (OpenSpec.ofChange succOnlySpec)

/-- ITS FALSE NEIGHBOUR: 'it returns false'. Refute it at one input. -/
def succOnlyWrong : ChangeSpec := { name := "succOnly", fn := fun _ => fun
  | [d1, d2, d3, d4, d5] => { results := [.lit (.bool false)], args := [d1, d2, d3, d4, d5] }
  | _ => none }
def SuccOnlyWrongFalsely : Prop := succOnlyRow.holds Try.pinned (OpenSpec.ofChange succOnlyWrong)

/-- 'lampwrightlaw.SuccNone': WHATEVER THE INPUT: true; the input reads as it did. -/
def succNoneSpec : ChangeSpec := { name := "succNone", fn := fun _ => fun
  | [d1, d2, d3, d4] => { results := [.lit (.bool true)], args := [d1, d2, d3, d4] }
  | _ => none }
def succNoneRow : OpenClaim := { program := "ytidnfcdnhdbolaa", sum := "fcec940a8818ae57eb4edb4911f0be4e08535fa02f032ef626608c687f6348d2", func := "lampwright/lampwrightlaw.SuccNone", spec := "succNone", unfollowed := true, recurses := true, apart := false }
def SuccNoneSaid : Prop := succNoneRow.holds Try.pinned (OpenSpec.ofChange succNoneSpec)

/-- ITS FALSE NEIGHBOUR: 'it returns false'. Refute it at one input. -/
def succNoneWrong : ChangeSpec := { name := "succNone", fn := fun _ => fun
  | [d1, d2, d3, d4] => { results := [.lit (.bool false)], args := [d1, d2, d3, d4] }
  | _ => none }
def SuccNoneWrongFalsely : Prop := succNoneRow.holds Try.pinned (OpenSpec.ofChange succNoneWrong)

/- THE SECOND FORM. 'bulk': how many values and letters a reading holds, each counted each time it is reached (what is shared counts as often as it is met; a slice's spare places count too). A statement '..UptoSaid' is the law's where the arguments, and the package variables that the reading takes, are together of bulk at most 1048576: NARROWER than '..Said'. Prove '..Said' where nothing that the law and all that it calls make is longer than what came in: it says more and counts as full. Else prove '..UptoSaid'. A law counts once. -/
mutual
def uptoBulk {H : Type} : DataW H → Nat
  | .lit (.string bytes) => bytes.length + 1
  | .lit _ => 1
  | .nil => 1
  | .ptr d => uptoBulk d + 1
  | .slice elems spare => uptoBulkAll elems + uptoBulkAll spare + 1
  | .agg parts => uptoBulkAll parts + 1
  | .iface _ d => uptoBulk d + 1
  | .map entries => uptoBulkEntries entries + 1
  | .held _ => 1
def uptoBulkAll {H : Type} : List (DataW H) → Nat
  | [] => 0
  | d :: r => uptoBulk d + uptoBulkAll r
def uptoBulkEntries {H : Type} : List (Lit × DataW H) → Nat
  | [] => 0
  | x :: r => uptoBulkEntry x + uptoBulkEntries r
def uptoBulkEntry {H : Type} : Lit × DataW H → Nat
  | (.string bytes, d) => bytes.length + uptoBulk d + 1
  | (_, d) => uptoBulk d + 1
 end
def uptoSmall : (H : Type) → List (DataW H) → Bool := fun _ ds => decide (uptoBulkAll ds ≤ 1048576)
def OpenSpec.upto (s : _root_.Go.ChangeSpec) : _root_.Go.OpenSpec := { _root_.Go.OpenSpec.ofChange s with cond := some uptoSmall }

/-- 'lampwrightlaw.SuccShift', WHERE WHAT IT READS IS OF BULK AT MOST 1048576: true; the input reads as it did. -/
def succShiftUptoRow : OpenClaim := { program := "ytidnfcdnhdbolaa", sum := "fcec940a8818ae57eb4edb4911f0be4e08535fa02f032ef626608c687f6348d2", func := "lampwright/lampwrightlaw.SuccShift", spec := "succShift", unfollowed := true, recurses := true, apart := false, narrowed := true }
def SuccShiftUptoSaid : Prop := succShiftUptoRow.holds Try.pinned (OpenSpec.upto succShiftSpec)

/-- 'lampwrightlaw.SuccCopy', WHERE WHAT IT READS IS OF BULK AT MOST 1048576: true; the input reads as it did. -/
def succCopyUptoRow : OpenClaim := { program := "ytidnfcdnhdbolaa", sum := "fcec940a8818ae57eb4edb4911f0be4e08535fa02f032ef626608c687f6348d2", func := "lampwright/lampwrightlaw.SuccCopy", spec := "succCopy", unfollowed := true, recurses := true, apart := false, narrowed := true }
def SuccCopyUptoSaid : Prop := succCopyUptoRow.holds Try.pinned (OpenSpec.upto succCopySpec)

/-- 'lampwrightlaw.SuccBack', WHERE WHAT IT READS IS OF BULK AT MOST 1048576: true; the input reads as it did. -/
def succBackUptoRow : OpenClaim := { program := "ytidnfcdnhdbolaa", sum := "fcec940a8818ae57eb4edb4911f0be4e08535fa02f032ef626608c687f6348d2", func := "lampwright/lampwrightlaw.SuccBack", spec := "succBack", unfollowed := true, recurses := true, apart := false, narrowed := true }
def SuccBackUptoSaid : Prop := succBackUptoRow.holds Try.pinned (OpenSpec.upto succBackSpec)

/-- 'lampwrightlaw.SuccOnly', WHERE WHAT IT READS IS OF BULK AT MOST 1048576: true; the input reads as it did. -/
def succOnlyUptoRow : OpenClaim := { program := "ytidnfcdnhdbolaa", sum := "fcec940a8818ae57eb4edb4911f0be4e08535fa02f032ef626608c687f6348d2", func := "lampwright/lampwrightlaw.SuccOnly", spec := "succOnly", unfollowed := true, recurses := true, apart := false, narrowed := true }
def SuccOnlyUptoSaid : Prop := succOnlyUptoRow.holds Try.pinned (OpenSpec.upto succOnlySpec)

/-- 'lampwrightlaw.SuccNone', WHERE WHAT IT READS IS OF BULK AT MOST 1048576: true; the input reads as it did. -/
def succNoneUptoRow : OpenClaim := { program := "ytidnfcdnhdbolaa", sum := "fcec940a8818ae57eb4edb4911f0be4e08535fa02f032ef626608c687f6348d2", func := "lampwright/lampwrightlaw.SuccNone", spec := "succNone", unfollowed := true, recurses := true, apart := false, narrowed := true }
def SuccNoneUptoSaid : Prop := succNoneUptoRow.holds Try.pinned (OpenSpec.upto succNoneSpec)

end Rows
end Go.Proofs.Ytidnfcdnhdbolaa
