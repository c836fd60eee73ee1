/-
  DERIVED. GIVEN WITH THE SEED: THE CARDS: each row of YtmkknagmafmcpaaGreatDoorRows.lean that lists a variable, with what it lists TIED to the program's text (the seventh form; the later family's looks); each row that meets fmt, with fmt's text TOLD by the authors' own Lean function (tested against real Go, not proved from fmt's source: count such statements apart). THE CARD IS WHAT COUNTS. Prove the row's statement (the work); the ties are given (YtmkknagmafmcpaaGreatDoorTie.lean); close each card by the builder's one call (the guide's Derived/Test/ToyasCard.lean, 'card_holds'). Laid BY PROGRAM, IN A SANDBOX (cutbox-door.mjs). By AI agents, Wed Nov 11 2026. No macro, syntax, notation, axiom, sorry.
-/
import Derived.Test.YtmkknagmafmcpaaGreatDoorRows
import GoSem.ClaimSeven
namespace Go.Proofs.YtmkknagmafmcpaaGreatDoor
namespace Rows

/-- THE TIED CARD OF 'gatefoldlaw39.GaugeFits'. -/
def gaugeFitsCard : Claim7 := { stood := { row := gaugeFitsRow, standIns := [], harness := (true, "215e3b406376eac7c9b5e3b3a271a8fc8cb99890ac4572109fc08c724c48d6d7"), looks := true }, kinds := [], alts := [], laidByText := true, laidKinds := [.data, .data, .data, .data, .sentinel, .sentinel, .pinned], laidTests := true, laidLooks := .later }
def GaugeFitsCardSaid : Prop := Claim7.holds Tryz.pinned (.plain (OpenSpec.ofChange gaugeFitsSpec)) gaugeFitsCard

/-- THE SECOND FORM's CARD OF 'gatefoldlaw39.GaugeFits'. -/
def gaugeFitsUptoCard : Claim7 := { stood := { row := gaugeFitsUptoRow, standIns := [], harness := (true, "215e3b406376eac7c9b5e3b3a271a8fc8cb99890ac4572109fc08c724c48d6d7"), looks := true }, kinds := [], alts := [], laidByText := true, laidKinds := [.data, .data, .data, .data, .sentinel, .sentinel, .pinned], laidTests := true, laidLooks := .later }
def GaugeFitsUptoCardSaid : Prop := Claim7.holds Tryz.pinned (.plain (OpenSpec.upto gaugeFitsSpec)) gaugeFitsUptoCard
end Rows
end Go.Proofs.YtmkknagmafmcpaaGreatDoor
