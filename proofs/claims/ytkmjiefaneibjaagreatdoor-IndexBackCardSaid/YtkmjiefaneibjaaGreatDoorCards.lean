/-
  DERIVED. GIVEN WITH THE SEED: THE CARDS: each row of YtkmjiefaneibjaaGreatDoorRows.lean that lists a variable, with what it lists TIED to the program's text (the seventh form; the later family's looks); each row that meets fmt, with fmt's text TOLD by the authors' own Lean function (tested against real Go, not proved from fmt's source: count such statements apart). THE CARD IS WHAT COUNTS. Prove the row's statement (the work); the ties are given (YtkmjiefaneibjaaGreatDoorTie.lean); close each card by the builder's one call (the guide's Derived/Test/ToyasCard.lean, 'card_holds'). Laid BY PROGRAM, IN A SANDBOX (cutbox-door.mjs). By AI agents, Wed Nov 11 2026. No macro, syntax, notation, axiom, sorry.
-/
import Derived.Test.YtkmjiefaneibjaaGreatDoorRows
import GoSem.ClaimSeven
namespace Go.Proofs.YtkmjiefaneibjaaGreatDoor
namespace Rows

/-- THE TIED CARD OF 'gatefoldlaw34.IndexTexts'. -/
def indexTextsCard : Claim7 := { stood := { row := indexTextsRow, standIns := [], harness := (true, "dff4c9fe5fc27bed9a38fe2be82122a850e9f835e279f03de38fb735d6be696a"), looks := true }, kinds := [], alts := [], laidByText := true, laidKinds := [.data, .data, .data, .data, .sentinel, .sentinel, .pinned], laidTests := true, laidLooks := .later }
def IndexTextsCardSaid : Prop := Claim7.holds Tryz.pinned (.plain (OpenSpec.ofChange indexTextsSpec)) indexTextsCard

/-- THE TIED CARD OF 'gatefoldlaw34.IndexBack'. -/
def indexBackCard : Claim7 := { stood := { row := indexBackRow, standIns := [], harness := (true, "dff4c9fe5fc27bed9a38fe2be82122a850e9f835e279f03de38fb735d6be696a"), looks := true }, kinds := [], alts := [], laidByText := true, laidKinds := [.data, .data, .data, .data, .sentinel, .sentinel, .pinned], laidTests := true, laidLooks := .later }
def IndexBackCardSaid : Prop := Claim7.holds Tryz.pinned (.plain (OpenSpec.ofChange indexBackSpec)) indexBackCard

/-- THE SECOND FORM's CARD OF 'gatefoldlaw34.IndexTexts'. -/
def indexTextsUptoCard : Claim7 := { stood := { row := indexTextsUptoRow, standIns := [], harness := (true, "dff4c9fe5fc27bed9a38fe2be82122a850e9f835e279f03de38fb735d6be696a"), looks := true }, kinds := [], alts := [], laidByText := true, laidKinds := [.data, .data, .data, .data, .sentinel, .sentinel, .pinned], laidTests := true, laidLooks := .later }
def IndexTextsUptoCardSaid : Prop := Claim7.holds Tryz.pinned (.plain (OpenSpec.upto indexTextsSpec)) indexTextsUptoCard

/-- THE SECOND FORM's CARD OF 'gatefoldlaw34.IndexBack'. -/
def indexBackUptoCard : Claim7 := { stood := { row := indexBackUptoRow, standIns := [], harness := (true, "dff4c9fe5fc27bed9a38fe2be82122a850e9f835e279f03de38fb735d6be696a"), looks := true }, kinds := [], alts := [], laidByText := true, laidKinds := [.data, .data, .data, .data, .sentinel, .sentinel, .pinned], laidTests := true, laidLooks := .later }
def IndexBackUptoCardSaid : Prop := Claim7.holds Tryz.pinned (.plain (OpenSpec.upto indexBackSpec)) indexBackUptoCard
end Rows
end Go.Proofs.YtkmjiefaneibjaaGreatDoor
