/-
  DERIVED. GIVEN WITH THE SEED: THE CARDS: each row of YtpinmkaeafpfdaaDoorRows.lean that lists a variable, with what it lists TIED to the program's text (the seventh form; the later family's looks); each row that meets fmt, with fmt's text TOLD by the authors' own Lean function (tested against real Go, not proved from fmt's source: count such statements apart). THE CARD IS WHAT COUNTS. Prove the row's statement (the work); the ties are given (YtpinmkaeafpfdaaDoorTie.lean); close each card by the builder's one call (the guide's Derived/Test/ToyasCard.lean, 'card_holds'). Laid BY PROGRAM, IN A SANDBOX (cutbox-door.mjs). By AI agents, Wed Nov 11 2026. No macro, syntax, notation, axiom, sorry.
-/
import Derived.Test.YtpinmkaeafpfdaaDoorRows
import GoSem.ClaimSeven
namespace Go.Proofs.YtpinmkaeafpfdaaDoor
namespace Rows

/-- THE TIED CARD OF 'gatefoldlaw39.GaugeTurned'. -/
def gaugeTurnedCard : Claim7 := { stood := { row := gaugeTurnedRow, standIns := [], harness := (true, "0f3224a3ac670a77b118ba31e6fcd9c747e5cf7b05ba1cc2b3ddf347bc2c6d2a"), looks := true }, kinds := [], alts := [], laidByText := true, laidKinds := [.data, .data, .data, .data, .sentinel, .sentinel, .pinned], laidTests := true, laidLooks := .later }
def GaugeTurnedCardSaid : Prop := Claim7.holds Tryd.pinned (.plain (OpenSpec.ofChange gaugeTurnedSpec)) gaugeTurnedCard

/-- THE TIED CARD OF 'gatefoldlaw39.GaugeLists'. -/
def gaugeListsCard : Claim7 := { stood := { row := gaugeListsRow, standIns := [], harness := (true, "0f3224a3ac670a77b118ba31e6fcd9c747e5cf7b05ba1cc2b3ddf347bc2c6d2a"), looks := true }, kinds := [], alts := [], laidByText := true, laidKinds := [.data, .data, .data, .data, .sentinel, .sentinel, .pinned], laidTests := true, laidLooks := .later }
def GaugeListsCardSaid : Prop := Claim7.holds Tryd.pinned (.plain (OpenSpec.ofChange gaugeListsSpec)) gaugeListsCard

/-- THE TIED CARD OF 'gatefoldlaw39.GaugeBack'. -/
def gaugeBackCard : Claim7 := { stood := { row := gaugeBackRow, standIns := [], harness := (true, "0f3224a3ac670a77b118ba31e6fcd9c747e5cf7b05ba1cc2b3ddf347bc2c6d2a"), looks := true }, kinds := [], alts := [], laidByText := true, laidKinds := [.data, .data, .data, .data, .sentinel, .sentinel, .pinned], laidTests := true, laidLooks := .later }
def GaugeBackCardSaid : Prop := Claim7.holds Tryd.pinned (.plain (OpenSpec.ofChange gaugeBackSpec)) gaugeBackCard

/-- THE SECOND FORM's CARD OF 'gatefoldlaw39.GaugeTurned'. -/
def gaugeTurnedUptoCard : Claim7 := { stood := { row := gaugeTurnedUptoRow, standIns := [], harness := (true, "0f3224a3ac670a77b118ba31e6fcd9c747e5cf7b05ba1cc2b3ddf347bc2c6d2a"), looks := true }, kinds := [], alts := [], laidByText := true, laidKinds := [.data, .data, .data, .data, .sentinel, .sentinel, .pinned], laidTests := true, laidLooks := .later }
def GaugeTurnedUptoCardSaid : Prop := Claim7.holds Tryd.pinned (.plain (OpenSpec.upto gaugeTurnedSpec)) gaugeTurnedUptoCard

/-- THE SECOND FORM's CARD OF 'gatefoldlaw39.GaugeLists'. -/
def gaugeListsUptoCard : Claim7 := { stood := { row := gaugeListsUptoRow, standIns := [], harness := (true, "0f3224a3ac670a77b118ba31e6fcd9c747e5cf7b05ba1cc2b3ddf347bc2c6d2a"), looks := true }, kinds := [], alts := [], laidByText := true, laidKinds := [.data, .data, .data, .data, .sentinel, .sentinel, .pinned], laidTests := true, laidLooks := .later }
def GaugeListsUptoCardSaid : Prop := Claim7.holds Tryd.pinned (.plain (OpenSpec.upto gaugeListsSpec)) gaugeListsUptoCard

/-- THE SECOND FORM's CARD OF 'gatefoldlaw39.GaugeBack'. -/
def gaugeBackUptoCard : Claim7 := { stood := { row := gaugeBackUptoRow, standIns := [], harness := (true, "0f3224a3ac670a77b118ba31e6fcd9c747e5cf7b05ba1cc2b3ddf347bc2c6d2a"), looks := true }, kinds := [], alts := [], laidByText := true, laidKinds := [.data, .data, .data, .data, .sentinel, .sentinel, .pinned], laidTests := true, laidLooks := .later }
def GaugeBackUptoCardSaid : Prop := Claim7.holds Tryd.pinned (.plain (OpenSpec.upto gaugeBackSpec)) gaugeBackUptoCard
end Rows
end Go.Proofs.YtpinmkaeafpfdaaDoor
