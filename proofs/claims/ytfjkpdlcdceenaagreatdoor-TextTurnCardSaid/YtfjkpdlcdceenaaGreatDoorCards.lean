/-
  DERIVED. GIVEN WITH THE SEED: THE CARDS: each row of YtfjkpdlcdceenaaGreatDoorRows.lean that lists a variable, with what it lists TIED to the program's text (the seventh form; the later family's looks); each row that meets fmt, with fmt's text TOLD by the authors' own Lean function (tested against real Go, not proved from fmt's source: count such statements apart). THE CARD IS WHAT COUNTS. Prove the row's statement (the work); the ties are given (YtfjkpdlcdceenaaGreatDoorTie.lean); close each card by the builder's one call (the guide's Derived/Test/ToyasCard.lean, 'card_holds'). Laid BY PROGRAM, IN A SANDBOX (cutbox-door.mjs). By AI agents, Wed Nov 11 2026. No macro, syntax, notation, axiom, sorry.
-/
import Derived.Test.YtfjkpdlcdceenaaGreatDoorRows
import GoSem.ClaimSeven
namespace Go.Proofs.YtfjkpdlcdceenaaGreatDoor
namespace Rows

/-- THE TIED CARD OF 'lampwrightlaw.TextTells'. -/
def textTellsCard : Claim7 := { stood := { row := textTellsRow, standIns := [], harness := (true, "539e71552f757528e7616d034773d1eddfee479eba5ddd34cf5fa7865dad7118"), looks := true }, kinds := [], alts := [], laidByText := true, laidKinds := [.data, .data, .data, .data, .sentinel, .sentinel, .pinned], laidTests := true, laidLooks := .later }
def TextTellsCardSaid : Prop := Claim7.holds Tryz.pinned (.plain (OpenSpec.ofChange textTellsSpec)) textTellsCard

/-- THE TIED CARD OF 'lampwrightlaw.TextBack'. -/
def textBackCard : Claim7 := { stood := { row := textBackRow, standIns := [], harness := (true, "539e71552f757528e7616d034773d1eddfee479eba5ddd34cf5fa7865dad7118"), looks := true }, kinds := [], alts := [], laidByText := true, laidKinds := [.data, .data, .data, .data, .sentinel, .sentinel, .pinned], laidTests := true, laidLooks := .later }
def TextBackCardSaid : Prop := Claim7.holds Tryz.pinned (.plain (OpenSpec.ofChange textBackSpec)) textBackCard

/-- THE TIED CARD OF 'lampwrightlaw.TextMore'. -/
def textMoreCard : Claim7 := { stood := { row := textMoreRow, standIns := [], harness := (true, "539e71552f757528e7616d034773d1eddfee479eba5ddd34cf5fa7865dad7118"), looks := true }, kinds := [], alts := [], laidByText := true, laidKinds := [.data, .data, .data, .data, .sentinel, .sentinel, .pinned], laidTests := true, laidLooks := .later }
def TextMoreCardSaid : Prop := Claim7.holds Tryz.pinned (.plain (OpenSpec.ofChange textMoreSpec)) textMoreCard

/-- THE TIED CARD OF 'lampwrightlaw.TextFault'. -/
def textFaultCard : Claim7 := { stood := { row := textFaultRow, standIns := [], harness := (true, "539e71552f757528e7616d034773d1eddfee479eba5ddd34cf5fa7865dad7118"), looks := true }, kinds := [], alts := [], laidByText := true, laidKinds := [.data, .data, .data, .data, .sentinel, .sentinel, .pinned], laidTests := true, laidLooks := .later }
def TextFaultCardSaid : Prop := Claim7.holds Tryz.pinned (.plain (OpenSpec.ofChange textFaultSpec)) textFaultCard

/-- THE TIED CARD OF 'lampwrightlaw.TextTurn'. -/
def textTurnCard : Claim7 := { stood := { row := textTurnRow, standIns := [], harness := (true, "539e71552f757528e7616d034773d1eddfee479eba5ddd34cf5fa7865dad7118"), looks := true }, kinds := [], alts := [], laidByText := true, laidKinds := [.data, .data, .data, .data, .sentinel, .sentinel, .pinned], laidTests := true, laidLooks := .later }
def TextTurnCardSaid : Prop := Claim7.holds Tryz.pinned (.plain (OpenSpec.ofChange textTurnSpec)) textTurnCard

/-- THE SECOND FORM's CARD OF 'lampwrightlaw.TextTells'. -/
def textTellsUptoCard : Claim7 := { stood := { row := textTellsUptoRow, standIns := [], harness := (true, "539e71552f757528e7616d034773d1eddfee479eba5ddd34cf5fa7865dad7118"), looks := true }, kinds := [], alts := [], laidByText := true, laidKinds := [.data, .data, .data, .data, .sentinel, .sentinel, .pinned], laidTests := true, laidLooks := .later }
def TextTellsUptoCardSaid : Prop := Claim7.holds Tryz.pinned (.plain (OpenSpec.upto textTellsSpec)) textTellsUptoCard

/-- THE SECOND FORM's CARD OF 'lampwrightlaw.TextBack'. -/
def textBackUptoCard : Claim7 := { stood := { row := textBackUptoRow, standIns := [], harness := (true, "539e71552f757528e7616d034773d1eddfee479eba5ddd34cf5fa7865dad7118"), looks := true }, kinds := [], alts := [], laidByText := true, laidKinds := [.data, .data, .data, .data, .sentinel, .sentinel, .pinned], laidTests := true, laidLooks := .later }
def TextBackUptoCardSaid : Prop := Claim7.holds Tryz.pinned (.plain (OpenSpec.upto textBackSpec)) textBackUptoCard

/-- THE SECOND FORM's CARD OF 'lampwrightlaw.TextMore'. -/
def textMoreUptoCard : Claim7 := { stood := { row := textMoreUptoRow, standIns := [], harness := (true, "539e71552f757528e7616d034773d1eddfee479eba5ddd34cf5fa7865dad7118"), looks := true }, kinds := [], alts := [], laidByText := true, laidKinds := [.data, .data, .data, .data, .sentinel, .sentinel, .pinned], laidTests := true, laidLooks := .later }
def TextMoreUptoCardSaid : Prop := Claim7.holds Tryz.pinned (.plain (OpenSpec.upto textMoreSpec)) textMoreUptoCard

/-- THE SECOND FORM's CARD OF 'lampwrightlaw.TextFault'. -/
def textFaultUptoCard : Claim7 := { stood := { row := textFaultUptoRow, standIns := [], harness := (true, "539e71552f757528e7616d034773d1eddfee479eba5ddd34cf5fa7865dad7118"), looks := true }, kinds := [], alts := [], laidByText := true, laidKinds := [.data, .data, .data, .data, .sentinel, .sentinel, .pinned], laidTests := true, laidLooks := .later }
def TextFaultUptoCardSaid : Prop := Claim7.holds Tryz.pinned (.plain (OpenSpec.upto textFaultSpec)) textFaultUptoCard

/-- THE SECOND FORM's CARD OF 'lampwrightlaw.TextTurn'. -/
def textTurnUptoCard : Claim7 := { stood := { row := textTurnUptoRow, standIns := [], harness := (true, "539e71552f757528e7616d034773d1eddfee479eba5ddd34cf5fa7865dad7118"), looks := true }, kinds := [], alts := [], laidByText := true, laidKinds := [.data, .data, .data, .data, .sentinel, .sentinel, .pinned], laidTests := true, laidLooks := .later }
def TextTurnUptoCardSaid : Prop := Claim7.holds Tryz.pinned (.plain (OpenSpec.upto textTurnSpec)) textTurnUptoCard
end Rows
end Go.Proofs.YtfjkpdlcdceenaaGreatDoor
