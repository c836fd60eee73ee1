/-
  DERIVED. GIVEN WITH THE SEED: THE CARDS: each row of YtleahcdojjeinaaDoorRows.lean that lists a variable, with what it lists TIED to the program's text (the seventh form; the later family's looks); each row that meets fmt, with fmt's text TOLD by the authors' own Lean function (tested against real Go, not proved from fmt's source: count such statements apart). THE CARD IS WHAT COUNTS. Prove the row's statement (the work); the ties are given (YtleahcdojjeinaaDoorTie.lean); close each card by the builder's one call (the guide's Derived/Test/ToyasCard.lean, 'card_holds'). Laid BY PROGRAM, IN A SANDBOX (cutbox-door.mjs). By AI agents, Wed Nov 11 2026. No macro, syntax, notation, axiom, sorry.
-/
import Derived.Test.YtleahcdojjeinaaDoorRows
import GoSem.ClaimSeven
namespace Go.Proofs.YtleahcdojjeinaaDoor
namespace Rows

/-- THE TIED CARD OF 'gatefoldlaw05.ReadReads'. -/
def readReadsCard : Claim7 := { stood := { row := readReadsRow, standIns := [], harness := (true, "0a6ac954656405f2c4b689674587cc14f14427d6889869abf21034edbd62f9e1"), looks := true }, kinds := [], alts := [], laidByText := true, laidKinds := [.data, .data, .data, .sentinel, .sentinel], laidTests := true, laidLooks := .later }
def ReadReadsCardSaid : Prop := Claim7.holds Tryd.pinned (.plain (OpenSpec.ofChange readReadsSpec)) readReadsCard

/-- THE TIED CARD OF 'gatefoldlaw05.ReadRows'. -/
def readRowsCard : Claim7 := { stood := { row := readRowsRow, standIns := [], harness := (true, "0a6ac954656405f2c4b689674587cc14f14427d6889869abf21034edbd62f9e1"), looks := true }, kinds := [], alts := [], laidByText := true, laidKinds := [.data, .data, .data, .sentinel, .sentinel], laidTests := true, laidLooks := .later }
def ReadRowsCardSaid : Prop := Claim7.holds Tryd.pinned (.plain (OpenSpec.ofChange readRowsSpec)) readRowsCard

/-- THE TIED CARD OF 'gatefoldlaw05.ReadSame'. -/
def readSameCard : Claim7 := { stood := { row := readSameRow, standIns := [], harness := (true, "0a6ac954656405f2c4b689674587cc14f14427d6889869abf21034edbd62f9e1"), looks := true }, kinds := [], alts := [], laidByText := true, laidKinds := [.data, .data, .data, .sentinel, .sentinel], laidTests := true, laidLooks := .later }
def ReadSameCardSaid : Prop := Claim7.holds Tryd.pinned (.plain (OpenSpec.ofChange readSameSpec)) readSameCard

/-- THE TIED CARD OF 'gatefoldlaw05.ReadParted'. -/
def readPartedCard : Claim7 := { stood := { row := readPartedRow, standIns := [], harness := (true, "0a6ac954656405f2c4b689674587cc14f14427d6889869abf21034edbd62f9e1"), looks := true }, kinds := [], alts := [], laidByText := true, laidKinds := [.data, .data, .data, .sentinel, .sentinel], laidTests := true, laidLooks := .later }
def ReadPartedCardSaid : Prop := Claim7.holds Tryd.pinned (.plain (OpenSpec.ofChange readPartedSpec)) readPartedCard

/-- THE TIED CARD OF 'gatefoldlaw06.ValidRead'. -/
def validReadCard : Claim7 := { stood := { row := validReadRow, standIns := [], harness := (true, "0a6ac954656405f2c4b689674587cc14f14427d6889869abf21034edbd62f9e1"), looks := true }, kinds := [], alts := [], laidByText := true, laidKinds := [.data, .data, .data, .sentinel, .sentinel], laidTests := true, laidLooks := .later }
def ValidReadCardSaid : Prop := Claim7.holds Tryd.pinned (.plain (OpenSpec.ofChange validReadSpec)) validReadCard

/-- THE TIED CARD OF 'gatefoldlaw07.CanonWrites'. -/
def canonWritesCard : Claim7 := { stood := { row := canonWritesRow, standIns := [], harness := (true, "0a6ac954656405f2c4b689674587cc14f14427d6889869abf21034edbd62f9e1"), looks := true }, kinds := [], alts := [], laidByText := true, laidKinds := [.data, .data, .data, .sentinel, .sentinel], laidTests := true, laidLooks := .later }
def CanonWritesCardSaid : Prop := Claim7.holds Tryd.pinned (.plain (OpenSpec.ofChange canonWritesSpec)) canonWritesCard

/-- THE TIED CARD OF 'gatefoldlaw07.CanonBack'. -/
def canonBackCard : Claim7 := { stood := { row := canonBackRow, standIns := [], harness := (true, "0a6ac954656405f2c4b689674587cc14f14427d6889869abf21034edbd62f9e1"), looks := true }, kinds := [], alts := [], laidByText := true, laidKinds := [.data, .data, .data, .sentinel, .sentinel], laidTests := true, laidLooks := .later }
def CanonBackCardSaid : Prop := Claim7.holds Tryd.pinned (.plain (OpenSpec.ofChange canonBackSpec)) canonBackCard

/-- THE TIED CARD OF 'gatefoldlaw07.CanonOnce'. -/
def canonOnceCard : Claim7 := { stood := { row := canonOnceRow, standIns := [], harness := (true, "0a6ac954656405f2c4b689674587cc14f14427d6889869abf21034edbd62f9e1"), looks := true }, kinds := [], alts := [], laidByText := true, laidKinds := [.data, .data, .data, .sentinel, .sentinel], laidTests := true, laidLooks := .later }
def CanonOnceCardSaid : Prop := Claim7.holds Tryd.pinned (.plain (OpenSpec.ofChange canonOnceSpec)) canonOnceCard

/-- THE SECOND FORM's CARD OF 'gatefoldlaw05.ReadReads'. -/
def readReadsUptoCard : Claim7 := { stood := { row := readReadsUptoRow, standIns := [], harness := (true, "0a6ac954656405f2c4b689674587cc14f14427d6889869abf21034edbd62f9e1"), looks := true }, kinds := [], alts := [], laidByText := true, laidKinds := [.data, .data, .data, .sentinel, .sentinel], laidTests := true, laidLooks := .later }
def ReadReadsUptoCardSaid : Prop := Claim7.holds Tryd.pinned (.plain (OpenSpec.upto readReadsSpec)) readReadsUptoCard

/-- THE SECOND FORM's CARD OF 'gatefoldlaw05.ReadRows'. -/
def readRowsUptoCard : Claim7 := { stood := { row := readRowsUptoRow, standIns := [], harness := (true, "0a6ac954656405f2c4b689674587cc14f14427d6889869abf21034edbd62f9e1"), looks := true }, kinds := [], alts := [], laidByText := true, laidKinds := [.data, .data, .data, .sentinel, .sentinel], laidTests := true, laidLooks := .later }
def ReadRowsUptoCardSaid : Prop := Claim7.holds Tryd.pinned (.plain (OpenSpec.upto readRowsSpec)) readRowsUptoCard

/-- THE SECOND FORM's CARD OF 'gatefoldlaw05.ReadSame'. -/
def readSameUptoCard : Claim7 := { stood := { row := readSameUptoRow, standIns := [], harness := (true, "0a6ac954656405f2c4b689674587cc14f14427d6889869abf21034edbd62f9e1"), looks := true }, kinds := [], alts := [], laidByText := true, laidKinds := [.data, .data, .data, .sentinel, .sentinel], laidTests := true, laidLooks := .later }
def ReadSameUptoCardSaid : Prop := Claim7.holds Tryd.pinned (.plain (OpenSpec.upto readSameSpec)) readSameUptoCard

/-- THE SECOND FORM's CARD OF 'gatefoldlaw05.ReadParted'. -/
def readPartedUptoCard : Claim7 := { stood := { row := readPartedUptoRow, standIns := [], harness := (true, "0a6ac954656405f2c4b689674587cc14f14427d6889869abf21034edbd62f9e1"), looks := true }, kinds := [], alts := [], laidByText := true, laidKinds := [.data, .data, .data, .sentinel, .sentinel], laidTests := true, laidLooks := .later }
def ReadPartedUptoCardSaid : Prop := Claim7.holds Tryd.pinned (.plain (OpenSpec.upto readPartedSpec)) readPartedUptoCard

/-- THE SECOND FORM's CARD OF 'gatefoldlaw06.ValidRead'. -/
def validReadUptoCard : Claim7 := { stood := { row := validReadUptoRow, standIns := [], harness := (true, "0a6ac954656405f2c4b689674587cc14f14427d6889869abf21034edbd62f9e1"), looks := true }, kinds := [], alts := [], laidByText := true, laidKinds := [.data, .data, .data, .sentinel, .sentinel], laidTests := true, laidLooks := .later }
def ValidReadUptoCardSaid : Prop := Claim7.holds Tryd.pinned (.plain (OpenSpec.upto validReadSpec)) validReadUptoCard

/-- THE SECOND FORM's CARD OF 'gatefoldlaw07.CanonWrites'. -/
def canonWritesUptoCard : Claim7 := { stood := { row := canonWritesUptoRow, standIns := [], harness := (true, "0a6ac954656405f2c4b689674587cc14f14427d6889869abf21034edbd62f9e1"), looks := true }, kinds := [], alts := [], laidByText := true, laidKinds := [.data, .data, .data, .sentinel, .sentinel], laidTests := true, laidLooks := .later }
def CanonWritesUptoCardSaid : Prop := Claim7.holds Tryd.pinned (.plain (OpenSpec.upto canonWritesSpec)) canonWritesUptoCard

/-- THE SECOND FORM's CARD OF 'gatefoldlaw07.CanonBack'. -/
def canonBackUptoCard : Claim7 := { stood := { row := canonBackUptoRow, standIns := [], harness := (true, "0a6ac954656405f2c4b689674587cc14f14427d6889869abf21034edbd62f9e1"), looks := true }, kinds := [], alts := [], laidByText := true, laidKinds := [.data, .data, .data, .sentinel, .sentinel], laidTests := true, laidLooks := .later }
def CanonBackUptoCardSaid : Prop := Claim7.holds Tryd.pinned (.plain (OpenSpec.upto canonBackSpec)) canonBackUptoCard

/-- THE SECOND FORM's CARD OF 'gatefoldlaw07.CanonOnce'. -/
def canonOnceUptoCard : Claim7 := { stood := { row := canonOnceUptoRow, standIns := [], harness := (true, "0a6ac954656405f2c4b689674587cc14f14427d6889869abf21034edbd62f9e1"), looks := true }, kinds := [], alts := [], laidByText := true, laidKinds := [.data, .data, .data, .sentinel, .sentinel], laidTests := true, laidLooks := .later }
def CanonOnceUptoCardSaid : Prop := Claim7.holds Tryd.pinned (.plain (OpenSpec.upto canonOnceSpec)) canonOnceUptoCard
end Rows
end Go.Proofs.YtleahcdojjeinaaDoor
