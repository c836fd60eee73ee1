/-
  DERIVED. GIVEN WITH THE SEED: THE CARDS: each row of YtnomejmaolodhaaDoorRows.lean that lists a variable, with what it lists TIED to the program's text (the seventh form; the later family's looks); each row that meets fmt, with fmt's text TOLD by the authors' own Lean function (tested against real Go, not proved from fmt's source: count such statements apart). THE CARD IS WHAT COUNTS. Prove the row's statement (the work); the ties are given (YtnomejmaolodhaaDoorTie.lean); close each card by the builder's one call (the guide's Derived/Test/ToyasCard.lean, 'card_holds'). Laid BY PROGRAM, IN A SANDBOX (cutbox-door.mjs). By AI agents, Wed Nov 11 2026. No macro, syntax, notation, axiom, sorry.
-/
import Derived.Test.YtnomejmaolodhaaDoorRows
import GoSem.ClaimSeven
namespace Go.Proofs.YtnomejmaolodhaaDoor
namespace Rows

/-- THE TIED CARD OF 'gatefoldlaw36.EditBetween'. -/
def editBetweenCard : Claim7 := { stood := { row := editBetweenRow, standIns := [], harness := (true, "8abb0bf24f3b55c354aac6f9745a5349464e23a5656cc6640b07df9667b98038"), looks := false }, kinds := [], alts := [], laidByText := true, laidKinds := [.data, .data, .data], laidTests := true, laidLooks := .later }
def EditBetweenCardSaid : Prop := Claim7.holds Tryd.pinned (.plain (OpenSpec.ofChange editBetweenSpec)) editBetweenCard

/-- THE SECOND FORM's CARD OF 'gatefoldlaw36.EditBetween'. -/
def editBetweenUptoCard : Claim7 := { stood := { row := editBetweenUptoRow, standIns := [], harness := (true, "8abb0bf24f3b55c354aac6f9745a5349464e23a5656cc6640b07df9667b98038"), looks := false }, kinds := [], alts := [], laidByText := true, laidKinds := [.data, .data, .data], laidTests := true, laidLooks := .later }
def EditBetweenUptoCardSaid : Prop := Claim7.holds Tryd.pinned (.plain (OpenSpec.upto editBetweenSpec)) editBetweenUptoCard
end Rows
end Go.Proofs.YtnomejmaolodhaaDoor
