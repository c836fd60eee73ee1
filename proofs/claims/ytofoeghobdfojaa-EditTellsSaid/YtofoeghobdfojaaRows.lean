/-
  No cell of these rows narrows 'for every input' (looked for: loops, veiled, ifaces, maps, wideKeys, modest, calm, conditions, laid).
  DERIVED. THE GIVEN ROWS OF THIS SEAT. 6 by the template 'for every input the law returns true; each argument reads behind the call as it read before'; 0 by the template 'total and deterministic' (their statements: YtofoeghobdfojaaTotals.lean).
  GIVEN WITH THE SEED: the statements are not yours to turn. If you find one false, say at which input.
  Laid BY PROGRAM, IN A SANDBOX (cutbox-rows.mjs): the forced cells as the released guide's own fill.sh prints them over the translation 4f5a79e65d927ea2… (all of the seat's roots in one cut). By AI agents, Wed Nov 11 2026. No macro, syntax, notation, axiom, sorry.
-/
import Derived.Test.YtofoeghobdfojaaChecked
import GoSem.Claim
import GoSem.ClaimJoined
import GoSem.ClaimMapViews
import Derived.JoinedTies
import Derived.KernelRfl
namespace Go.Proofs.Ytofoeghobdfojaa
/- THE CELL 'sum', in the pinned program and in every row, IS THE sha256 OF THE DUMP (.gsa) THAT YtofoeghobdfojaaProg.lean LOADS. Nothing in Lean hashes anything: it is a label: what it is worth is what the hold of that sum in a sandbox is worth. -/
noncomputable def Try.pinned : Pinned := { name := "ytofoeghobdfojaa", sum := "4f5a79e65d927ea202c06843f5decf49b2199a0fee2f7f5c6349989c889a2d91", checked := Try.checked }
namespace Rows
def none {H : Type} : Left H := { results := [], args := [] }

/-- 'gatefoldlaw06.ValidCounts': WHATEVER THE INPUT: true; the input reads as it did. -/
def validCountsSpec : ChangeSpec := { name := "validCounts", fn := fun _ => fun
  | [d] => { results := [.lit (.bool true)], args := [d] }
  | _ => none }
def validCountsRow : OpenClaim := { program := "ytofoeghobdfojaa", sum := "4f5a79e65d927ea202c06843f5decf49b2199a0fee2f7f5c6349989c889a2d91", func := "gatefold/gatefoldlaw06.ValidCounts", spec := "validCounts", unfollowed := true, recurses := true, apart := false }
def ValidCountsSaid : Prop := validCountsRow.holds Try.pinned (OpenSpec.ofChange validCountsSpec)

/-- ITS FALSE NEIGHBOUR: 'it returns false'. Refute it at one input. -/
def validCountsWrong : ChangeSpec := { name := "validCounts", fn := fun _ => fun
  | [d] => { results := [.lit (.bool false)], args := [d] }
  | _ => none }
def ValidCountsWrongFalsely : Prop := validCountsRow.holds Try.pinned (OpenSpec.ofChange validCountsWrong)

/-- 'gatefoldlaw06.ValidParts': WHATEVER THE INPUT: true; the input reads as it did. -/
def validPartsSpec : ChangeSpec := { name := "validParts", fn := fun _ => fun
  | [d1, d2] => { results := [.lit (.bool true)], args := [d1, d2] }
  | _ => none }
def validPartsRow : OpenClaim := { program := "ytofoeghobdfojaa", sum := "4f5a79e65d927ea202c06843f5decf49b2199a0fee2f7f5c6349989c889a2d91", func := "gatefold/gatefoldlaw06.ValidParts", spec := "validParts", unfollowed := true, recurses := true, apart := false }
def ValidPartsSaid : Prop := validPartsRow.holds Try.pinned (OpenSpec.ofChange validPartsSpec)

/-- ITS FALSE NEIGHBOUR: 'it returns false'. Refute it at one input. -/
def validPartsWrong : ChangeSpec := { name := "validParts", fn := fun _ => fun
  | [d1, d2] => { results := [.lit (.bool false)], args := [d1, d2] }
  | _ => none }
def ValidPartsWrongFalsely : Prop := validPartsRow.holds Try.pinned (OpenSpec.ofChange validPartsWrong)

/-- 'gatefoldlaw36.EditDoes': WHATEVER THE INPUT: true; the input reads as it did. -/
def editDoesSpec : ChangeSpec := { name := "editDoes", fn := fun _ => fun
  | [d1, d2] => { results := [.lit (.bool true)], args := [d1, d2] }
  | _ => none }
def editDoesRow : OpenClaim := { program := "ytofoeghobdfojaa", sum := "4f5a79e65d927ea202c06843f5decf49b2199a0fee2f7f5c6349989c889a2d91", func := "gatefold/gatefoldlaw36.EditDoes", spec := "editDoes", unfollowed := true, recurses := true, apart := false }
def EditDoesSaid : Prop := editDoesRow.holds Try.pinned (OpenSpec.ofChange editDoesSpec)

/-- ITS FALSE NEIGHBOUR: 'it returns false'. Refute it at one input. -/
def editDoesWrong : ChangeSpec := { name := "editDoes", fn := fun _ => fun
  | [d1, d2] => { results := [.lit (.bool false)], args := [d1, d2] }
  | _ => none }
def EditDoesWrongFalsely : Prop := editDoesRow.holds Try.pinned (OpenSpec.ofChange editDoesWrong)

/-- 'gatefoldlaw36.EditTells': WHATEVER THE INPUT: true; the input reads as it did. -/
def editTellsSpec : ChangeSpec := { name := "editTells", fn := fun _ => fun
  | [d1, d2, d3, d4] => { results := [.lit (.bool true)], args := [d1, d2, d3, d4] }
  | _ => none }
def editTellsRow : OpenClaim := { program := "ytofoeghobdfojaa", sum := "4f5a79e65d927ea202c06843f5decf49b2199a0fee2f7f5c6349989c889a2d91", func := "gatefold/gatefoldlaw36.EditTells", spec := "editTells", unfollowed := true, recurses := true, apart := false }
def EditTellsSaid : Prop := editTellsRow.holds Try.pinned (OpenSpec.ofChange editTellsSpec)

/-- ITS FALSE NEIGHBOUR: 'it returns false'. Refute it at one input. -/
def editTellsWrong : ChangeSpec := { name := "editTells", fn := fun _ => fun
  | [d1, d2, d3, d4] => { results := [.lit (.bool false)], args := [d1, d2, d3, d4] }
  | _ => none }
def EditTellsWrongFalsely : Prop := editTellsRow.holds Try.pinned (OpenSpec.ofChange editTellsWrong)

/-- 'gatefoldlaw36.EditRuns': WHATEVER THE INPUT: true; the input reads as it did. -/
def editRunsSpec : ChangeSpec := { name := "editRuns", fn := fun _ => fun
  | [d1, d2] => { results := [.lit (.bool true)], args := [d1, d2] }
  | _ => none }
def editRunsRow : OpenClaim := { program := "ytofoeghobdfojaa", sum := "4f5a79e65d927ea202c06843f5decf49b2199a0fee2f7f5c6349989c889a2d91", func := "gatefold/gatefoldlaw36.EditRuns", spec := "editRuns", unfollowed := true, recurses := true, apart := false }
def EditRunsSaid : Prop := editRunsRow.holds Try.pinned (OpenSpec.ofChange editRunsSpec)

/-- ITS FALSE NEIGHBOUR: 'it returns false'. Refute it at one input. -/
def editRunsWrong : ChangeSpec := { name := "editRuns", fn := fun _ => fun
  | [d1, d2] => { results := [.lit (.bool false)], args := [d1, d2] }
  | _ => none }
def EditRunsWrongFalsely : Prop := editRunsRow.holds Try.pinned (OpenSpec.ofChange editRunsWrong)

/-- 'gatefoldlaw36.EditBack': WHATEVER THE INPUT: true; the input reads as it did. -/
def editBackSpec : ChangeSpec := { name := "editBack", fn := fun _ => fun
  | [d1, d2] => { results := [.lit (.bool true)], args := [d1, d2] }
  | _ => none }
def editBackRow : OpenClaim := { program := "ytofoeghobdfojaa", sum := "4f5a79e65d927ea202c06843f5decf49b2199a0fee2f7f5c6349989c889a2d91", func := "gatefold/gatefoldlaw36.EditBack", spec := "editBack", unfollowed := true, recurses := true, apart := false }
def EditBackSaid : Prop := editBackRow.holds Try.pinned (OpenSpec.ofChange editBackSpec)

/-- ITS FALSE NEIGHBOUR: 'it returns false'. Refute it at one input. -/
def editBackWrong : ChangeSpec := { name := "editBack", fn := fun _ => fun
  | [d1, d2] => { results := [.lit (.bool false)], args := [d1, d2] }
  | _ => none }
def EditBackWrongFalsely : Prop := editBackRow.holds Try.pinned (OpenSpec.ofChange editBackWrong)

/- THE SECOND FORM. 'bulk': how many values and letters a reading holds, each counted each time it is reached (what is shared counts as often as it is met; a slice's spare places count too). A statement '..UptoSaid' is the law's where the arguments, and the package variables that the reading takes, are together of bulk at most 1048576: NARROWER than '..Said'. Prove '..Said' where nothing that the law and all that it calls make is longer than what came in: it says more and counts as full. Else prove '..UptoSaid'. A law counts once. -/
mutual
def uptoBulk {H : Type} : DataW H → Nat
  | .lit (.string bytes) => bytes.length + 1
  | .lit _ => 1
  | .nil => 1
  | .ptr d => uptoBulk d + 1
  | .slice elems spare => uptoBulkAll elems + uptoBulkAll spare + 1
  | .agg parts => uptoBulkAll parts + 1
  | .iface _ d => uptoBulk d + 1
  | .map entries => uptoBulkEntries entries + 1
  | .held _ => 1
def uptoBulkAll {H : Type} : List (DataW H) → Nat
  | [] => 0
  | d :: r => uptoBulk d + uptoBulkAll r
def uptoBulkEntries {H : Type} : List (Lit × DataW H) → Nat
  | [] => 0
  | x :: r => uptoBulkEntry x + uptoBulkEntries r
def uptoBulkEntry {H : Type} : Lit × DataW H → Nat
  | (.string bytes, d) => bytes.length + uptoBulk d + 1
  | (_, d) => uptoBulk d + 1
 end
def uptoSmall : (H : Type) → List (DataW H) → Bool := fun _ ds => decide (uptoBulkAll ds ≤ 1048576)
def OpenSpec.upto (s : _root_.Go.ChangeSpec) : _root_.Go.OpenSpec := { _root_.Go.OpenSpec.ofChange s with cond := some uptoSmall }

/-- 'gatefoldlaw06.ValidCounts', WHERE WHAT IT READS IS OF BULK AT MOST 1048576: true; the input reads as it did. -/
def validCountsUptoRow : OpenClaim := { program := "ytofoeghobdfojaa", sum := "4f5a79e65d927ea202c06843f5decf49b2199a0fee2f7f5c6349989c889a2d91", func := "gatefold/gatefoldlaw06.ValidCounts", spec := "validCounts", unfollowed := true, recurses := true, apart := false, narrowed := true }
def ValidCountsUptoSaid : Prop := validCountsUptoRow.holds Try.pinned (OpenSpec.upto validCountsSpec)

/-- 'gatefoldlaw06.ValidParts', WHERE WHAT IT READS IS OF BULK AT MOST 1048576: true; the input reads as it did. -/
def validPartsUptoRow : OpenClaim := { program := "ytofoeghobdfojaa", sum := "4f5a79e65d927ea202c06843f5decf49b2199a0fee2f7f5c6349989c889a2d91", func := "gatefold/gatefoldlaw06.ValidParts", spec := "validParts", unfollowed := true, recurses := true, apart := false, narrowed := true }
def ValidPartsUptoSaid : Prop := validPartsUptoRow.holds Try.pinned (OpenSpec.upto validPartsSpec)

/-- 'gatefoldlaw36.EditDoes', WHERE WHAT IT READS IS OF BULK AT MOST 1048576: true; the input reads as it did. -/
def editDoesUptoRow : OpenClaim := { program := "ytofoeghobdfojaa", sum := "4f5a79e65d927ea202c06843f5decf49b2199a0fee2f7f5c6349989c889a2d91", func := "gatefold/gatefoldlaw36.EditDoes", spec := "editDoes", unfollowed := true, recurses := true, apart := false, narrowed := true }
def EditDoesUptoSaid : Prop := editDoesUptoRow.holds Try.pinned (OpenSpec.upto editDoesSpec)

/-- 'gatefoldlaw36.EditTells', WHERE WHAT IT READS IS OF BULK AT MOST 1048576: true; the input reads as it did. -/
def editTellsUptoRow : OpenClaim := { program := "ytofoeghobdfojaa", sum := "4f5a79e65d927ea202c06843f5decf49b2199a0fee2f7f5c6349989c889a2d91", func := "gatefold/gatefoldlaw36.EditTells", spec := "editTells", unfollowed := true, recurses := true, apart := false, narrowed := true }
def EditTellsUptoSaid : Prop := editTellsUptoRow.holds Try.pinned (OpenSpec.upto editTellsSpec)

/-- 'gatefoldlaw36.EditRuns', WHERE WHAT IT READS IS OF BULK AT MOST 1048576: true; the input reads as it did. -/
def editRunsUptoRow : OpenClaim := { program := "ytofoeghobdfojaa", sum := "4f5a79e65d927ea202c06843f5decf49b2199a0fee2f7f5c6349989c889a2d91", func := "gatefold/gatefoldlaw36.EditRuns", spec := "editRuns", unfollowed := true, recurses := true, apart := false, narrowed := true }
def EditRunsUptoSaid : Prop := editRunsUptoRow.holds Try.pinned (OpenSpec.upto editRunsSpec)

/-- 'gatefoldlaw36.EditBack', WHERE WHAT IT READS IS OF BULK AT MOST 1048576: true; the input reads as it did. -/
def editBackUptoRow : OpenClaim := { program := "ytofoeghobdfojaa", sum := "4f5a79e65d927ea202c06843f5decf49b2199a0fee2f7f5c6349989c889a2d91", func := "gatefold/gatefoldlaw36.EditBack", spec := "editBack", unfollowed := true, recurses := true, apart := false, narrowed := true }
def EditBackUptoSaid : Prop := editBackUptoRow.holds Try.pinned (OpenSpec.upto editBackSpec)

end Rows
end Go.Proofs.Ytofoeghobdfojaa
