/-
  DERIVED. GIVEN WITH THE SEED: THE CARDS: each row of YthibchijlpflmaaGreatDoorRows.lean that lists a variable, with what it lists TIED to the program's text (the seventh form; the later family's looks); each row that meets fmt, with fmt's text TOLD by the authors' own Lean function (tested against real Go, not proved from fmt's source: count such statements apart). THE CARD IS WHAT COUNTS. Prove the row's statement (the work); the ties are given (YthibchijlpflmaaGreatDoorTie.lean); close each card by the builder's one call (the guide's Derived/Test/ToyasCard.lean, 'card_holds'). Laid BY PROGRAM, IN A SANDBOX (cutbox-door.mjs). By AI agents, Wed Nov 11 2026. No macro, syntax, notation, axiom, sorry.
-/
import Derived.Test.YthibchijlpflmaaGreatDoorRows
import GoSem.ClaimSeven
namespace Go.Proofs.YthibchijlpflmaaGreatDoor
namespace Rows

/-- THE TIED CARD OF 'lampwrightlaw.DeskNodes'. -/
def deskNodesCard : Claim7 := { stood := { row := deskNodesRow, standIns := [], harness := (true, "50da4d3e3fc8cc024402faf527712e4c6cd62a9f3e9e6cbba148348118613820"), looks := true }, kinds := [], alts := [], laidByText := true, laidKinds := [.data, .data, .data, .data, .sentinel, .sentinel, .pinned], laidTests := true, laidLooks := .later }
def DeskNodesCardSaid : Prop := Claim7.holds Tryz.pinned (.plain (OpenSpec.ofChange deskNodesSpec)) deskNodesCard

/-- THE TIED CARD OF 'lampwrightlaw.DeskRuns'. -/
def deskRunsCard : Claim7 := { stood := { row := deskRunsRow, standIns := [], harness := (true, "50da4d3e3fc8cc024402faf527712e4c6cd62a9f3e9e6cbba148348118613820"), looks := true }, kinds := [], alts := [], laidByText := true, laidKinds := [.data, .data, .data, .data, .sentinel, .sentinel, .pinned], laidTests := true, laidLooks := .later }
def DeskRunsCardSaid : Prop := Claim7.holds Tryz.pinned (.plain (OpenSpec.ofChange deskRunsSpec)) deskRunsCard

/-- THE TIED CARD OF 'lampwrightlaw.DeskParts'. -/
def deskPartsCard : Claim7 := { stood := { row := deskPartsRow, standIns := [], harness := (true, "50da4d3e3fc8cc024402faf527712e4c6cd62a9f3e9e6cbba148348118613820"), looks := true }, kinds := [], alts := [], laidByText := true, laidKinds := [.data, .data, .data, .data, .sentinel, .sentinel, .pinned], laidTests := true, laidLooks := .later }
def DeskPartsCardSaid : Prop := Claim7.holds Tryz.pinned (.plain (OpenSpec.ofChange deskPartsSpec)) deskPartsCard

/-- THE TIED CARD OF 'lampwrightlaw.DeskTells'. -/
def deskTellsCard : Claim7 := { stood := { row := deskTellsRow, standIns := [], harness := (true, "50da4d3e3fc8cc024402faf527712e4c6cd62a9f3e9e6cbba148348118613820"), looks := true }, kinds := [], alts := [], laidByText := true, laidKinds := [.data, .data, .data, .data, .sentinel, .sentinel, .pinned], laidTests := true, laidLooks := .later }
def DeskTellsCardSaid : Prop := Claim7.holds Tryz.pinned (.plain (OpenSpec.ofChange deskTellsSpec)) deskTellsCard

/-- THE TIED CARD OF 'lampwrightlaw.DeskKeeps'. -/
def deskKeepsCard : Claim7 := { stood := { row := deskKeepsRow, standIns := [], harness := (true, "50da4d3e3fc8cc024402faf527712e4c6cd62a9f3e9e6cbba148348118613820"), looks := true }, kinds := [], alts := [], laidByText := true, laidKinds := [.data, .data, .data, .data, .sentinel, .sentinel, .pinned], laidTests := true, laidLooks := .later }
def DeskKeepsCardSaid : Prop := Claim7.holds Tryz.pinned (.plain (OpenSpec.ofChange deskKeepsSpec)) deskKeepsCard

/-- THE TIED CARD OF 'lampwrightlaw.DeskBack'. -/
def deskBackCard : Claim7 := { stood := { row := deskBackRow, standIns := [], harness := (true, "50da4d3e3fc8cc024402faf527712e4c6cd62a9f3e9e6cbba148348118613820"), looks := true }, kinds := [], alts := [], laidByText := true, laidKinds := [.data, .data, .data, .data, .sentinel, .sentinel, .pinned], laidTests := true, laidLooks := .later }
def DeskBackCardSaid : Prop := Claim7.holds Tryz.pinned (.plain (OpenSpec.ofChange deskBackSpec)) deskBackCard

/-- THE TIED CARD OF 'lampwrightlaw.DeskHow'. -/
def deskHowCard : Claim7 := { stood := { row := deskHowRow, standIns := [], harness := (true, "50da4d3e3fc8cc024402faf527712e4c6cd62a9f3e9e6cbba148348118613820"), looks := true }, kinds := [], alts := [], laidByText := true, laidKinds := [.data, .data, .data, .data, .sentinel, .sentinel, .pinned], laidTests := true, laidLooks := .later }
def DeskHowCardSaid : Prop := Claim7.holds Tryz.pinned (.plain (OpenSpec.ofChange deskHowSpec)) deskHowCard

/-- THE SECOND FORM's CARD OF 'lampwrightlaw.DeskNodes'. -/
def deskNodesUptoCard : Claim7 := { stood := { row := deskNodesUptoRow, standIns := [], harness := (true, "50da4d3e3fc8cc024402faf527712e4c6cd62a9f3e9e6cbba148348118613820"), looks := true }, kinds := [], alts := [], laidByText := true, laidKinds := [.data, .data, .data, .data, .sentinel, .sentinel, .pinned], laidTests := true, laidLooks := .later }
def DeskNodesUptoCardSaid : Prop := Claim7.holds Tryz.pinned (.plain (OpenSpec.upto deskNodesSpec)) deskNodesUptoCard

/-- THE SECOND FORM's CARD OF 'lampwrightlaw.DeskRuns'. -/
def deskRunsUptoCard : Claim7 := { stood := { row := deskRunsUptoRow, standIns := [], harness := (true, "50da4d3e3fc8cc024402faf527712e4c6cd62a9f3e9e6cbba148348118613820"), looks := true }, kinds := [], alts := [], laidByText := true, laidKinds := [.data, .data, .data, .data, .sentinel, .sentinel, .pinned], laidTests := true, laidLooks := .later }
def DeskRunsUptoCardSaid : Prop := Claim7.holds Tryz.pinned (.plain (OpenSpec.upto deskRunsSpec)) deskRunsUptoCard

/-- THE SECOND FORM's CARD OF 'lampwrightlaw.DeskParts'. -/
def deskPartsUptoCard : Claim7 := { stood := { row := deskPartsUptoRow, standIns := [], harness := (true, "50da4d3e3fc8cc024402faf527712e4c6cd62a9f3e9e6cbba148348118613820"), looks := true }, kinds := [], alts := [], laidByText := true, laidKinds := [.data, .data, .data, .data, .sentinel, .sentinel, .pinned], laidTests := true, laidLooks := .later }
def DeskPartsUptoCardSaid : Prop := Claim7.holds Tryz.pinned (.plain (OpenSpec.upto deskPartsSpec)) deskPartsUptoCard

/-- THE SECOND FORM's CARD OF 'lampwrightlaw.DeskTells'. -/
def deskTellsUptoCard : Claim7 := { stood := { row := deskTellsUptoRow, standIns := [], harness := (true, "50da4d3e3fc8cc024402faf527712e4c6cd62a9f3e9e6cbba148348118613820"), looks := true }, kinds := [], alts := [], laidByText := true, laidKinds := [.data, .data, .data, .data, .sentinel, .sentinel, .pinned], laidTests := true, laidLooks := .later }
def DeskTellsUptoCardSaid : Prop := Claim7.holds Tryz.pinned (.plain (OpenSpec.upto deskTellsSpec)) deskTellsUptoCard

/-- THE SECOND FORM's CARD OF 'lampwrightlaw.DeskKeeps'. -/
def deskKeepsUptoCard : Claim7 := { stood := { row := deskKeepsUptoRow, standIns := [], harness := (true, "50da4d3e3fc8cc024402faf527712e4c6cd62a9f3e9e6cbba148348118613820"), looks := true }, kinds := [], alts := [], laidByText := true, laidKinds := [.data, .data, .data, .data, .sentinel, .sentinel, .pinned], laidTests := true, laidLooks := .later }
def DeskKeepsUptoCardSaid : Prop := Claim7.holds Tryz.pinned (.plain (OpenSpec.upto deskKeepsSpec)) deskKeepsUptoCard

/-- THE SECOND FORM's CARD OF 'lampwrightlaw.DeskBack'. -/
def deskBackUptoCard : Claim7 := { stood := { row := deskBackUptoRow, standIns := [], harness := (true, "50da4d3e3fc8cc024402faf527712e4c6cd62a9f3e9e6cbba148348118613820"), looks := true }, kinds := [], alts := [], laidByText := true, laidKinds := [.data, .data, .data, .data, .sentinel, .sentinel, .pinned], laidTests := true, laidLooks := .later }
def DeskBackUptoCardSaid : Prop := Claim7.holds Tryz.pinned (.plain (OpenSpec.upto deskBackSpec)) deskBackUptoCard

/-- THE SECOND FORM's CARD OF 'lampwrightlaw.DeskHow'. -/
def deskHowUptoCard : Claim7 := { stood := { row := deskHowUptoRow, standIns := [], harness := (true, "50da4d3e3fc8cc024402faf527712e4c6cd62a9f3e9e6cbba148348118613820"), looks := true }, kinds := [], alts := [], laidByText := true, laidKinds := [.data, .data, .data, .data, .sentinel, .sentinel, .pinned], laidTests := true, laidLooks := .later }
def DeskHowUptoCardSaid : Prop := Claim7.holds Tryz.pinned (.plain (OpenSpec.upto deskHowSpec)) deskHowUptoCard
end Rows
end Go.Proofs.YthibchijlpflmaaGreatDoor
