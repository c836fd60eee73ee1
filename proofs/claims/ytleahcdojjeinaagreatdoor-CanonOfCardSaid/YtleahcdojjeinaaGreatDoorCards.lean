/-
  DERIVED. GIVEN WITH THE SEED: THE CARDS: each row of YtleahcdojjeinaaGreatDoorRows.lean that lists a variable, with what it lists TIED to the program's text (the seventh form; the later family's looks); each row that meets fmt, with fmt's text TOLD by the authors' own Lean function (tested against real Go, not proved from fmt's source: count such statements apart). THE CARD IS WHAT COUNTS. Prove the row's statement (the work); the ties are given (YtleahcdojjeinaaGreatDoorTie.lean); close each card by the builder's one call (the guide's Derived/Test/ToyasCard.lean, 'card_holds'). Laid BY PROGRAM, IN A SANDBOX (cutbox-door.mjs). By AI agents, Wed Nov 11 2026. No macro, syntax, notation, axiom, sorry.
-/
import Derived.Test.YtleahcdojjeinaaGreatDoorRows
import GoSem.ClaimSeven
namespace Go.Proofs.YtleahcdojjeinaaGreatDoor
namespace Rows

/-- THE TIED CARD OF 'gatefoldlaw07.CanonOf'. -/
def canonOfCard : Claim7 := { stood := { row := canonOfRow, standIns := [], harness := (true, "9410a2522a28da5865257f056f7ff5924f7a97fe8b9e14cd46bf48cfb12a70d9"), looks := true }, kinds := [], alts := [], laidByText := true, laidKinds := [.data, .data, .data, .sentinel, .sentinel], laidTests := true, laidLooks := .later }
def CanonOfCardSaid : Prop := Claim7.holds Tryz.pinned (.plain (OpenSpec.ofChange canonOfSpec)) canonOfCard

/-- THE SECOND FORM's CARD OF 'gatefoldlaw07.CanonOf'. -/
def canonOfUptoCard : Claim7 := { stood := { row := canonOfUptoRow, standIns := [], harness := (true, "9410a2522a28da5865257f056f7ff5924f7a97fe8b9e14cd46bf48cfb12a70d9"), looks := true }, kinds := [], alts := [], laidByText := true, laidKinds := [.data, .data, .data, .sentinel, .sentinel], laidTests := true, laidLooks := .later }
def CanonOfUptoCardSaid : Prop := Claim7.holds Tryz.pinned (.plain (OpenSpec.upto canonOfSpec)) canonOfUptoCard
end Rows
end Go.Proofs.YtleahcdojjeinaaGreatDoor
