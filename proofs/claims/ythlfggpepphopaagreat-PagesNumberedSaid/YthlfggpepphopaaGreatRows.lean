/-
  No cell of these rows narrows 'for every input' (looked for: loops, veiled, ifaces, maps, wideKeys, modest, calm, conditions, laid).
  DERIVED. THE GIVEN ROWS OF THIS SEAT. 3 by the template 'for every input the law returns true; each argument reads behind the call as it read before'; 0 by the template 'total and deterministic' (their statements: YthlfggpepphopaaGreatTotals.lean).
  GIVEN WITH THE SEED: the statements are not yours to turn. If you find one false, say at which input.
  Laid BY PROGRAM, IN A SANDBOX (cutbox-rows.mjs): the forced cells as the released guide's own fill.sh prints them over the translation 6177a671672d3082… (all of the seat's roots in one cut). By AI agents, Wed Nov 11 2026. No macro, syntax, notation, axiom, sorry.
-/
import Derived.Test.YthlfggpepphopaaGreatChecked
import GoSem.Claim
import GoSem.ClaimJoined
import GoSem.ClaimMapViews
import Derived.JoinedTies
import Derived.KernelRfl
namespace Go.Proofs.YthlfggpepphopaaGreat
/- THE CELL 'sum', in the pinned program and in every row, IS THE sha256 OF THE DUMP (.gsa) THAT YthlfggpepphopaaGreatProg.lean LOADS. Nothing in Lean hashes anything: it is a label: what it is worth is what the hold of that sum in a sandbox is worth. -/
noncomputable def Tryz.pinned : Pinned := { name := "ythlfggpepphopaagreat", sum := "6177a671672d3082c02ad5329039896f7aa9d377db0a6606352ccbf6e2d418d9", checked := Tryz.checked }
namespace Rows
def none {H : Type} : Left H := { results := [], args := [] }

/-- 'gatefoldlaw25.FillBest': WHATEVER THE INPUT: true; the input reads as it did. -/
def fillBestSpec : ChangeSpec := { name := "fillBest", fn := fun _ => fun
  | [d1, d2, d3, d4] => { results := [.lit (.bool true)], args := [d1, d2, d3, d4] }
  | _ => none }
def fillBestRow : OpenClaim := { program := "ythlfggpepphopaagreat", sum := "6177a671672d3082c02ad5329039896f7aa9d377db0a6606352ccbf6e2d418d9", func := "gatefold/gatefoldlaw25.FillBest", spec := "fillBest", unfollowed := true, recurses := true, apart := false }
def FillBestSaid : Prop := fillBestRow.holds Tryz.pinned (OpenSpec.ofChange fillBestSpec)

/-- ITS FALSE NEIGHBOUR: 'it returns false'. Refute it at one input. -/
def fillBestWrong : ChangeSpec := { name := "fillBest", fn := fun _ => fun
  | [d1, d2, d3, d4] => { results := [.lit (.bool false)], args := [d1, d2, d3, d4] }
  | _ => none }
def FillBestWrongFalsely : Prop := fillBestRow.holds Tryz.pinned (OpenSpec.ofChange fillBestWrong)

/-- 'gatefoldlaw26.PagesOnce': WHATEVER THE INPUT: true; the input reads as it did. -/
def pagesOnceSpec : ChangeSpec := { name := "pagesOnce", fn := fun _ => fun
  | [d1, d2, d3] => { results := [.lit (.bool true)], args := [d1, d2, d3] }
  | _ => none }
def pagesOnceRow : OpenClaim := { program := "ythlfggpepphopaagreat", sum := "6177a671672d3082c02ad5329039896f7aa9d377db0a6606352ccbf6e2d418d9", func := "gatefold/gatefoldlaw26.PagesOnce", spec := "pagesOnce", unfollowed := true, recurses := true, apart := false }
def PagesOnceSaid : Prop := pagesOnceRow.holds Tryz.pinned (OpenSpec.ofChange pagesOnceSpec)

/-- ITS FALSE NEIGHBOUR: 'it returns false'. Refute it at one input. -/
def pagesOnceWrong : ChangeSpec := { name := "pagesOnce", fn := fun _ => fun
  | [d1, d2, d3] => { results := [.lit (.bool false)], args := [d1, d2, d3] }
  | _ => none }
def PagesOnceWrongFalsely : Prop := pagesOnceRow.holds Tryz.pinned (OpenSpec.ofChange pagesOnceWrong)

/-- 'gatefoldlaw26.PagesNumbered': WHATEVER THE INPUT: true; the input reads as it did. -/
def pagesNumberedSpec : ChangeSpec := { name := "pagesNumbered", fn := fun _ => fun
  | [d1, d2, d3] => { results := [.lit (.bool true)], args := [d1, d2, d3] }
  | _ => none }
def pagesNumberedRow : OpenClaim := { program := "ythlfggpepphopaagreat", sum := "6177a671672d3082c02ad5329039896f7aa9d377db0a6606352ccbf6e2d418d9", func := "gatefold/gatefoldlaw26.PagesNumbered", spec := "pagesNumbered", unfollowed := true, recurses := true, apart := false }
def PagesNumberedSaid : Prop := pagesNumberedRow.holds Tryz.pinned (OpenSpec.ofChange pagesNumberedSpec)

/-- ITS FALSE NEIGHBOUR: 'it returns false'. Refute it at one input. -/
def pagesNumberedWrong : ChangeSpec := { name := "pagesNumbered", fn := fun _ => fun
  | [d1, d2, d3] => { results := [.lit (.bool false)], args := [d1, d2, d3] }
  | _ => none }
def PagesNumberedWrongFalsely : Prop := pagesNumberedRow.holds Tryz.pinned (OpenSpec.ofChange pagesNumberedWrong)

/- THE SECOND FORM. 'bulk': how many values and letters a reading holds, each counted each time it is reached (what is shared counts as often as it is met; a slice's spare places count too). A statement '..UptoSaid' is the law's where the arguments, and the package variables that the reading takes, are together of bulk at most 1048576: NARROWER than '..Said'. Prove '..Said' where nothing that the law and all that it calls make is longer than what came in: it says more and counts as full. Else prove '..UptoSaid'. A law counts once. -/
mutual
def uptoBulk {H : Type} : DataW H → Nat
  | .lit (.string bytes) => bytes.length + 1
  | .lit _ => 1
  | .nil => 1
  | .ptr d => uptoBulk d + 1
  | .slice elems spare => uptoBulkAll elems + uptoBulkAll spare + 1
  | .agg parts => uptoBulkAll parts + 1
  | .iface _ d => uptoBulk d + 1
  | .map entries => uptoBulkEntries entries + 1
  | .held _ => 1
def uptoBulkAll {H : Type} : List (DataW H) → Nat
  | [] => 0
  | d :: r => uptoBulk d + uptoBulkAll r
def uptoBulkEntries {H : Type} : List (Lit × DataW H) → Nat
  | [] => 0
  | x :: r => uptoBulkEntry x + uptoBulkEntries r
def uptoBulkEntry {H : Type} : Lit × DataW H → Nat
  | (.string bytes, d) => bytes.length + uptoBulk d + 1
  | (_, d) => uptoBulk d + 1
 end
def uptoSmall : (H : Type) → List (DataW H) → Bool := fun _ ds => decide (uptoBulkAll ds ≤ 1048576)
def OpenSpec.upto (s : _root_.Go.ChangeSpec) : _root_.Go.OpenSpec := { _root_.Go.OpenSpec.ofChange s with cond := some uptoSmall }

/-- 'gatefoldlaw25.FillBest', WHERE WHAT IT READS IS OF BULK AT MOST 1048576: true; the input reads as it did. -/
def fillBestUptoRow : OpenClaim := { program := "ythlfggpepphopaagreat", sum := "6177a671672d3082c02ad5329039896f7aa9d377db0a6606352ccbf6e2d418d9", func := "gatefold/gatefoldlaw25.FillBest", spec := "fillBest", unfollowed := true, recurses := true, apart := false, narrowed := true }
def FillBestUptoSaid : Prop := fillBestUptoRow.holds Tryz.pinned (OpenSpec.upto fillBestSpec)

/-- 'gatefoldlaw26.PagesOnce', WHERE WHAT IT READS IS OF BULK AT MOST 1048576: true; the input reads as it did. -/
def pagesOnceUptoRow : OpenClaim := { program := "ythlfggpepphopaagreat", sum := "6177a671672d3082c02ad5329039896f7aa9d377db0a6606352ccbf6e2d418d9", func := "gatefold/gatefoldlaw26.PagesOnce", spec := "pagesOnce", unfollowed := true, recurses := true, apart := false, narrowed := true }
def PagesOnceUptoSaid : Prop := pagesOnceUptoRow.holds Tryz.pinned (OpenSpec.upto pagesOnceSpec)

/-- 'gatefoldlaw26.PagesNumbered', WHERE WHAT IT READS IS OF BULK AT MOST 1048576: true; the input reads as it did. -/
def pagesNumberedUptoRow : OpenClaim := { program := "ythlfggpepphopaagreat", sum := "6177a671672d3082c02ad5329039896f7aa9d377db0a6606352ccbf6e2d418d9", func := "gatefold/gatefoldlaw26.PagesNumbered", spec := "pagesNumbered", unfollowed := true, recurses := true, apart := false, narrowed := true }
def PagesNumberedUptoSaid : Prop := pagesNumberedUptoRow.holds Tryz.pinned (OpenSpec.upto pagesNumberedSpec)

end Rows
end Go.Proofs.YthlfggpepphopaaGreat
