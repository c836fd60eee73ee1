/-
  No cell of these rows narrows 'for every input' (looked for: loops, veiled, ifaces, maps, wideKeys, modest, calm, conditions, laid).
  DERIVED. THE GIVEN ROWS OF THIS SEAT. 4 by the template 'for every input the law returns true; each argument reads behind the call as it read before'; 0 by the template 'total and deterministic' (their statements: YtdaelobhgmdoeaaGreatTotals.lean).
  GIVEN WITH THE SEED: the statements are not yours to turn. If you find one false, say at which input.
  Laid BY PROGRAM, IN A SANDBOX (cutbox-rows.mjs): the forced cells as the released guide's own fill.sh prints them over the translation ce667642419d175f… (all of the seat's roots in one cut). By AI agents, Wed Nov 11 2026. No macro, syntax, notation, axiom, sorry.
-/
import Derived.Test.YtdaelobhgmdoeaaGreatChecked
import GoSem.Claim
import GoSem.ClaimJoined
import GoSem.ClaimMapViews
import Derived.JoinedTies
import Derived.KernelRfl
namespace Go.Proofs.YtdaelobhgmdoeaaGreat
/- THE CELL 'sum', in the pinned program and in every row, IS THE sha256 OF THE DUMP (.gsa) THAT YtdaelobhgmdoeaaGreatProg.lean LOADS. Nothing in Lean hashes anything: it is a label: what it is worth is what the hold of that sum in a sandbox is worth. -/
noncomputable def Tryz.pinned : Pinned := { name := "ytdaelobhgmdoeaagreat", sum := "ce667642419d175f7e59bec463a64f912711ff40545dbd295a8b401babb23cbf", checked := Tryz.checked }
namespace Rows
def none {H : Type} : Left H := { results := [], args := [] }

/-- 'gatefoldlaw31.AuditRight': WHATEVER THE INPUT: true; the input reads as it did. -/
def auditRightSpec : ChangeSpec := { name := "auditRight", fn := fun _ => fun
  | [d1, d2, d3, d4] => { results := [.lit (.bool true)], args := [d1, d2, d3, d4] }
  | _ => none }
def auditRightRow : OpenClaim := { program := "ytdaelobhgmdoeaagreat", sum := "ce667642419d175f7e59bec463a64f912711ff40545dbd295a8b401babb23cbf", func := "gatefold/gatefoldlaw31.AuditRight", spec := "auditRight", unfollowed := true, recurses := true, apart := false }
def AuditRightSaid : Prop := auditRightRow.holds Tryz.pinned (OpenSpec.ofChange auditRightSpec)

/-- ITS FALSE NEIGHBOUR: 'it returns false'. Refute it at one input. -/
def auditRightWrong : ChangeSpec := { name := "auditRight", fn := fun _ => fun
  | [d1, d2, d3, d4] => { results := [.lit (.bool false)], args := [d1, d2, d3, d4] }
  | _ => none }
def AuditRightWrongFalsely : Prop := auditRightRow.holds Tryz.pinned (OpenSpec.ofChange auditRightWrong)

/-- 'gatefoldlaw31.AuditOn': WHATEVER THE INPUT: true; the input reads as it did. -/
def auditOnSpec : ChangeSpec := { name := "auditOn", fn := fun _ => fun
  | [d1, d2, d3, d4] => { results := [.lit (.bool true)], args := [d1, d2, d3, d4] }
  | _ => none }
def auditOnRow : OpenClaim := { program := "ytdaelobhgmdoeaagreat", sum := "ce667642419d175f7e59bec463a64f912711ff40545dbd295a8b401babb23cbf", func := "gatefold/gatefoldlaw31.AuditOn", spec := "auditOn", unfollowed := true, recurses := true, apart := false }
def AuditOnSaid : Prop := auditOnRow.holds Tryz.pinned (OpenSpec.ofChange auditOnSpec)

/-- ITS FALSE NEIGHBOUR: 'it returns false'. Refute it at one input. -/
def auditOnWrong : ChangeSpec := { name := "auditOn", fn := fun _ => fun
  | [d1, d2, d3, d4] => { results := [.lit (.bool false)], args := [d1, d2, d3, d4] }
  | _ => none }
def AuditOnWrongFalsely : Prop := auditOnRow.holds Tryz.pinned (OpenSpec.ofChange auditOnWrong)

/-- 'gatefoldlaw37.RedoBoth': WHATEVER THE INPUT: true; the input reads as it did. -/
def redoBothSpec : ChangeSpec := { name := "redoBoth", fn := fun _ => fun
  | [d1, d2, d3, d4, d5] => { results := [.lit (.bool true)], args := [d1, d2, d3, d4, d5] }
  | _ => none }
def redoBothRow : OpenClaim := { program := "ytdaelobhgmdoeaagreat", sum := "ce667642419d175f7e59bec463a64f912711ff40545dbd295a8b401babb23cbf", func := "gatefold/gatefoldlaw37.RedoBoth", spec := "redoBoth", unfollowed := true, recurses := true, apart := false }
def RedoBothSaid : Prop := redoBothRow.holds Tryz.pinned (OpenSpec.ofChange redoBothSpec)

/-- ITS FALSE NEIGHBOUR: 'it returns false'. Refute it at one input. -/
def redoBothWrong : ChangeSpec := { name := "redoBoth", fn := fun _ => fun
  | [d1, d2, d3, d4, d5] => { results := [.lit (.bool false)], args := [d1, d2, d3, d4, d5] }
  | _ => none }
def RedoBothWrongFalsely : Prop := redoBothRow.holds Tryz.pinned (OpenSpec.ofChange redoBothWrong)

/-- 'gatefoldlaw37.RedoKept': WHATEVER THE INPUT: true; the input reads as it did. -/
def redoKeptSpec : ChangeSpec := { name := "redoKept", fn := fun _ => fun
  | [d1, d2, d3, d4] => { results := [.lit (.bool true)], args := [d1, d2, d3, d4] }
  | _ => none }
def redoKeptRow : OpenClaim := { program := "ytdaelobhgmdoeaagreat", sum := "ce667642419d175f7e59bec463a64f912711ff40545dbd295a8b401babb23cbf", func := "gatefold/gatefoldlaw37.RedoKept", spec := "redoKept", unfollowed := true, recurses := true, apart := false }
def RedoKeptSaid : Prop := redoKeptRow.holds Tryz.pinned (OpenSpec.ofChange redoKeptSpec)

/-- ITS FALSE NEIGHBOUR: 'it returns false'. Refute it at one input. -/
def redoKeptWrong : ChangeSpec := { name := "redoKept", fn := fun _ => fun
  | [d1, d2, d3, d4] => { results := [.lit (.bool false)], args := [d1, d2, d3, d4] }
  | _ => none }
def RedoKeptWrongFalsely : Prop := redoKeptRow.holds Tryz.pinned (OpenSpec.ofChange redoKeptWrong)

/- THE SECOND FORM. 'bulk': how many values and letters a reading holds, each counted each time it is reached (what is shared counts as often as it is met; a slice's spare places count too). A statement '..UptoSaid' is the law's where the arguments, and the package variables that the reading takes, are together of bulk at most 1048576: NARROWER than '..Said'. Prove '..Said' where nothing that the law and all that it calls make is longer than what came in: it says more and counts as full. Else prove '..UptoSaid'. A law counts once. -/
mutual
def uptoBulk {H : Type} : DataW H → Nat
  | .lit (.string bytes) => bytes.length + 1
  | .lit _ => 1
  | .nil => 1
  | .ptr d => uptoBulk d + 1
  | .slice elems spare => uptoBulkAll elems + uptoBulkAll spare + 1
  | .agg parts => uptoBulkAll parts + 1
  | .iface _ d => uptoBulk d + 1
  | .map entries => uptoBulkEntries entries + 1
  | .held _ => 1
def uptoBulkAll {H : Type} : List (DataW H) → Nat
  | [] => 0
  | d :: r => uptoBulk d + uptoBulkAll r
def uptoBulkEntries {H : Type} : List (Lit × DataW H) → Nat
  | [] => 0
  | x :: r => uptoBulkEntry x + uptoBulkEntries r
def uptoBulkEntry {H : Type} : Lit × DataW H → Nat
  | (.string bytes, d) => bytes.length + uptoBulk d + 1
  | (_, d) => uptoBulk d + 1
 end
def uptoSmall : (H : Type) → List (DataW H) → Bool := fun _ ds => decide (uptoBulkAll ds ≤ 1048576)
def OpenSpec.upto (s : _root_.Go.ChangeSpec) : _root_.Go.OpenSpec := { _root_.Go.OpenSpec.ofChange s with cond := some uptoSmall }

/-- 'gatefoldlaw31.AuditRight', WHERE WHAT IT READS IS OF BULK AT MOST 1048576: true; the input reads as it did. -/
def auditRightUptoRow : OpenClaim := { program := "ytdaelobhgmdoeaagreat", sum := "ce667642419d175f7e59bec463a64f912711ff40545dbd295a8b401babb23cbf", func := "gatefold/gatefoldlaw31.AuditRight", spec := "auditRight", unfollowed := true, recurses := true, apart := false, narrowed := true }
def AuditRightUptoSaid : Prop := auditRightUptoRow.holds Tryz.pinned (OpenSpec.upto auditRightSpec)

/-- 'gatefoldlaw31.AuditOn', WHERE WHAT IT READS IS OF BULK AT MOST 1048576: true; the input reads as it did. -/
def auditOnUptoRow : OpenClaim := { program := "ytdaelobhgmdoeaagreat", sum := "ce667642419d175f7e59bec463a64f912711ff40545dbd295a8b401babb23cbf", func := "gatefold/gatefoldlaw31.AuditOn", spec := "auditOn", unfollowed := true, recurses := true, apart := false, narrowed := true }
def AuditOnUptoSaid : Prop := auditOnUptoRow.holds Tryz.pinned (OpenSpec.upto auditOnSpec)

/-- 'gatefoldlaw37.RedoBoth', WHERE WHAT IT READS IS OF BULK AT MOST 1048576: true; the input reads as it did. -/
def redoBothUptoRow : OpenClaim := { program := "ytdaelobhgmdoeaagreat", sum := "ce667642419d175f7e59bec463a64f912711ff40545dbd295a8b401babb23cbf", func := "gatefold/gatefoldlaw37.RedoBoth", spec := "redoBoth", unfollowed := true, recurses := true, apart := false, narrowed := true }
def RedoBothUptoSaid : Prop := redoBothUptoRow.holds Tryz.pinned (OpenSpec.upto redoBothSpec)

/-- 'gatefoldlaw37.RedoKept', WHERE WHAT IT READS IS OF BULK AT MOST 1048576: true; the input reads as it did. -/
def redoKeptUptoRow : OpenClaim := { program := "ytdaelobhgmdoeaagreat", sum := "ce667642419d175f7e59bec463a64f912711ff40545dbd295a8b401babb23cbf", func := "gatefold/gatefoldlaw37.RedoKept", spec := "redoKept", unfollowed := true, recurses := true, apart := false, narrowed := true }
def RedoKeptUptoSaid : Prop := redoKeptUptoRow.holds Tryz.pinned (OpenSpec.upto redoKeptSpec)

end Rows
end Go.Proofs.YtdaelobhgmdoeaaGreat
