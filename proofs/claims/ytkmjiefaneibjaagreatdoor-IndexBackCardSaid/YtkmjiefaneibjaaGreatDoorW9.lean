/- Part 9 of the library of this proof. -/
import Derived.Test.YtkmjiefaneibjaaGreatDoorW8
import Derived.Test.YtkmjiefaneibjaaGreatDoorProg
import Derived.KernelRfl
set_option linter.all false
namespace Go.Vc
open Go.Proofs
set_option maxRecDepth 1000000
theorem mixO : Tryz.prog.follows .mixedOrders = true := by kernel_rfl
def s34 : V := .str [91, 104, 50, 32, 123, 51, 32, 57, 125, 91, 104, 49, 32, 123, 51, 32, 57, 125, 123, 51, 32, 57, 125, 93, 60, 76, 32, 50, 32, 52, 62, 93]
def n34_0 : V := (.sl 20 [(.agg [(.int .i64 1), (.int .i64 6), (.int .i64 0), (.int .i64 0), (.int .i64 0), (.int .i64 0), (.int .i64 0), (.int .i64 2), (.int .i64 2), (.int .i64 2), (.int .i64 0), (.int .i64 0), (.int .i64 0), (.int .i64 0), (.int .i64 0), (.int .i64 0), .nils, (.int .i64 0), (.int .i64 0), (.int .i64 0)]), (.agg [(.int .i64 3), (.int .i64 1), (.int .i64 0), (.int .i64 0), (.int .i64 0), (.int .i64 0), (.int .i64 0), (.int .i64 0), (.int .i64 0), (.int .i64 0), (.int .i64 0), (.int .i64 0), (.int .i64 0), (.int .i64 0), (.int .i64 0), (.int .i64 0), .nils, (.int .i64 0), (.int .i64 3), (.int .i64 9)]), (.agg [(.int .i64 1), (.int .i64 3), (.int .i64 0), (.int .i64 0), (.int .i64 0), (.int .i64 0), (.int .i64 0), (.int .i64 2), (.int .i64 2), (.int .i64 1), (.int .i64 0), (.int .i64 0), (.int .i64 0), (.int .i64 0), (.int .i64 0), (.int .i64 0), .nils, (.int .i64 0), (.int .i64 0), (.int .i64 0)]), (.agg [(.int .i64 3), (.int .i64 1), (.int .i64 0), (.int .i64 0), (.int .i64 0), (.int .i64 0), (.int .i64 0), (.int .i64 0), (.int .i64 0), (.int .i64 0), (.int .i64 0), (.int .i64 0), (.int .i64 0), (.int .i64 0), (.int .i64 0), (.int .i64 0), .nils, (.int .i64 0), (.int .i64 3), (.int .i64 9)]), (.agg [(.int .i64 3), (.int .i64 1), (.int .i64 0), (.int .i64 0), (.int .i64 0), (.int .i64 0), (.int .i64 0), (.int .i64 0), (.int .i64 0), (.int .i64 0), (.int .i64 0), (.int .i64 0), (.int .i64 0), (.int .i64 0), (.int .i64 0), (.int .i64 0), .nils, (.int .i64 0), (.int .i64 3), (.int .i64 9)]), (.agg [(.int .i64 4), (.int .i64 1), (.int .i64 0), (.int .i64 0), (.int .i64 0), (.int .i64 0), (.int .i64 0), (.int .i64 0), (.int .i64 0), (.int .i64 0), (.int .i64 0), (.int .i64 0), (.int .i64 0), (.int .i64 0), (.int .i64 0), (.int .i64 0), .nils, (.int .i64 1), (.int .i64 2), (.int .i64 4)])])
def n34_1 : V := (.int .i64 0)
def n34_2 : V := (.int .i64 0)
theorem n34_ex : PFun Tryz.prog 11 [s34] (.tup [n34_0, n34_1, n34_2]) := ex_of mixO [6, 8, 11, 12, 13, 16, 14, 26, 28] (E := []) ExOk.nil rfl (by kernel_rfl)
def nw34_0 : V := (.agg [(.sl 20 [(.agg [(.int .i64 1), (.int .i64 6), (.int .i64 0), (.int .i64 0), (.int .i64 0), (.int .i64 0), (.int .i64 0), (.int .i64 2), (.int .i64 2), (.int .i64 2), (.int .i64 0), (.int .i64 0), (.int .i64 0), (.int .i64 0), (.int .i64 0), (.int .i64 0), .nils, (.int .i64 0), (.int .i64 0), (.int .i64 0)]), (.agg [(.int .i64 3), (.int .i64 1), (.int .i64 0), (.int .i64 0), (.int .i64 0), (.int .i64 0), (.int .i64 0), (.int .i64 0), (.int .i64 0), (.int .i64 0), (.int .i64 0), (.int .i64 0), (.int .i64 0), (.int .i64 0), (.int .i64 0), (.int .i64 0), .nils, (.int .i64 0), (.int .i64 3), (.int .i64 9)]), (.agg [(.int .i64 1), (.int .i64 3), (.int .i64 0), (.int .i64 0), (.int .i64 0), (.int .i64 0), (.int .i64 0), (.int .i64 2), (.int .i64 2), (.int .i64 1), (.int .i64 0), (.int .i64 0), (.int .i64 0), (.int .i64 0), (.int .i64 0), (.int .i64 0), .nils, (.int .i64 0), (.int .i64 0), (.int .i64 0)]), (.agg [(.int .i64 3), (.int .i64 1), (.int .i64 0), (.int .i64 0), (.int .i64 0), (.int .i64 0), (.int .i64 0), (.int .i64 0), (.int .i64 0), (.int .i64 0), (.int .i64 0), (.int .i64 0), (.int .i64 0), (.int .i64 0), (.int .i64 0), (.int .i64 0), .nils, (.int .i64 0), (.int .i64 3), (.int .i64 9)]), (.agg [(.int .i64 3), (.int .i64 1), (.int .i64 0), (.int .i64 0), (.int .i64 0), (.int .i64 0), (.int .i64 0), (.int .i64 0), (.int .i64 0), (.int .i64 0), (.int .i64 0), (.int .i64 0), (.int .i64 0), (.int .i64 0), (.int .i64 0), (.int .i64 0), .nils, (.int .i64 0), (.int .i64 3), (.int .i64 9)]), (.agg [(.int .i64 4), (.int .i64 1), (.int .i64 0), (.int .i64 0), (.int .i64 0), (.int .i64 0), (.int .i64 0), (.int .i64 0), (.int .i64 0), (.int .i64 0), (.int .i64 0), (.int .i64 0), (.int .i64 0), (.int .i64 0), (.int .i64 0), (.int .i64 0), .nils, (.int .i64 1), (.int .i64 2), (.int .i64 4)])]), (.int .i64 8), (.int .i64 20), (.sl 8 [(.agg [(.int .i64 2), (.int .i64 1), (.int .i64 0), (.int .i64 0), (.int .i64 0), (.int .i64 0), (.int .i64 3), (.int .i64 9)]), (.agg [(.int .i64 2), (.int .i64 3), (.int .i64 0), (.int .i64 0), (.int .i64 0), (.int .i64 9), (.int .i64 3), (.int .i64 9)]), (.agg [(.int .i64 2), (.int .i64 4), (.int .i64 0), (.int .i64 0), (.int .i64 0), (.int .i64 18), (.int .i64 3), (.int .i64 9)])]), (.sl 7 [(.agg [(.int .i64 5), (.int .i64 1), (.int .i64 2), (.int .i64 0), (.int .i64 27), (.int .i64 2), (.int .i64 4)])]), (.int .i64 31), (.sl 3 [(.agg [(.int .i64 0), (.int .i64 2), (.int .i64 0)]), (.agg [(.int .i64 1), (.int .i64 2), (.int .i64 0)]), (.agg [(.int .i64 1), (.int .i64 0), (.int .i64 0)]), (.agg [(.int .i64 3), (.int .i64 0), (.int .i64 0)])])])
def nw34_1 : V := (.int .i64 0)
theorem nw34_ex : PFun Tryz.prog 26 [n34_0, .int .i64 8, .int .i64 20] (.tup [nw34_0, nw34_1]) := ex_of mixO [6, 8, 11, 12, 13, 16, 14, 26, 28] (E := []) ExOk.nil rfl (by kernel_rfl)
def of34_0 : V := (.sl 5 [(.agg [(.int .i64 1), (.int .i64 1), (.sl 7 [(.agg [(.int .i64 0), (.int .i64 (-1)), (.int .i64 0), (.int .i64 0), (.int .i64 0), (.int .i64 8), (.int .i64 2)])]), (.sl 7 [(.agg [(.int .i64 1), (.int .i64 0), (.int .i64 0), (.int .i64 0), (.int .i64 2), (.int .i64 3), (.int .i64 9)])]), (.sl 7 [])]), (.agg [(.int .i64 2), (.int .i64 1), (.sl 7 [(.agg [(.int .i64 0), (.int .i64 (-1)), (.int .i64 0), (.int .i64 0), (.int .i64 0), (.int .i64 8), (.int .i64 2)]), (.agg [(.int .i64 2), (.int .i64 (-1)), (.int .i64 0), (.int .i64 0), (.int .i64 2), (.int .i64 8), (.int .i64 1)])]), (.sl 7 [(.agg [(.int .i64 3), (.int .i64 1), (.int .i64 0), (.int .i64 0), (.int .i64 3), (.int .i64 3), (.int .i64 9)])]), (.sl 7 [])]), (.agg [(.int .i64 3), (.int .i64 1), (.sl 7 [(.agg [(.int .i64 0), (.int .i64 (-1)), (.int .i64 0), (.int .i64 0), (.int .i64 0), (.int .i64 8), (.int .i64 2)]), (.agg [(.int .i64 2), (.int .i64 (-1)), (.int .i64 0), (.int .i64 0), (.int .i64 2), (.int .i64 8), (.int .i64 1)])]), (.sl 7 [(.agg [(.int .i64 4), (.int .i64 2), (.int .i64 0), (.int .i64 0), (.int .i64 3), (.int .i64 3), (.int .i64 9)])]), (.sl 7 [(.agg [(.int .i64 5), (.int .i64 (-1)), (.int .i64 0), (.int .i64 0), (.int .i64 12), (.int .i64 2), (.int .i64 4)])])])])
def of34_1 : V := (.int .i64 0)
theorem of34_ex : PFun Tryz.prog 12 [n34_0, .int .i64 8, .int .i64 20] (.tup [of34_0, of34_1]) := ex_of mixO [6, 8, 11, 12, 13, 16, 14, 26, 28] (E := [(26, [n34_0, .int .i64 8, .int .i64 20], (.tup [nw34_0, nw34_1]))]) (.cons nw34_ex ExOk.nil) rfl (by kernel_rfl)
def ct34_0 : V := (.sl 3 [(.agg [(.int .i64 0), (.int .i64 0), (.int .i64 1)]), (.agg [(.int .i64 1), (.int .i64 2), (.int .i64 2)])])
theorem ct34_ex : PFun Tryz.prog 13 [n34_0, of34_0] ct34_0 := ex_of mixO [6, 8, 11, 12, 13, 16, 14, 26, 28] (E := []) ExOk.nil rfl (by kernel_rfl)
def on34_0 : V := (.sl 1 [(.int .i64 0), (.int .i64 2), (.int .i64 3)])
theorem on34_ex : PFun Tryz.prog 16 [n34_0, of34_0, .int .i64 2] on34_0 := ex_of mixO [6, 8, 11, 12, 13, 16, 14, 26, 28] (E := []) ExOk.nil rfl (by kernel_rfl)
def io34_0 : V := .nils
theorem io34_ex : PFun Tryz.prog 14 [n34_0, .nils] io34_0 := ex_of mixO [6, 8, 11, 12, 13, 16, 14, 26, 28] (E := []) ExOk.nil rfl (by kernel_rfl)
def p34 : V := .str [49, 32, 50, 32, 51, 10, 48, 49, 32, 50, 32, 51, 10]
theorem pa34_ex : PFun Tryz.prog 6 [p34] (.tup [.sl 3 [], .int .i64 2, .int .i64 1]) := ex34_parse
def r34 : V := .sl 3 [.agg [.int .i64 (-1), .int .i64 0, .int .i64 0]]
theorem tx34_ex : PFun Tryz.prog 8 [r34] (.str []) := ex34_text
def aw34_0 : V := (.bool .true)
theorem aw34_ex : PFun Tryz.prog 5 [] aw34_0 := ex_of mixO [6, 8, 11, 12, 13, 16, 14, 26, 28] (E := [(11, [s34], (.tup [n34_0, n34_1, n34_2])), (12, [n34_0, .int .i64 8, .int .i64 20], (.tup [of34_0, of34_1])), (13, [n34_0, of34_0], ct34_0), (16, [n34_0, of34_0, .int .i64 2], on34_0), (14, [n34_0, .nils], io34_0), (6, [p34], (.tup [.sl 3 [], .int .i64 2, .int .i64 1])), (8, [r34], (.str []))]) (.cons n34_ex (.cons of34_ex (.cons ct34_ex (.cons on34_ex (.cons io34_ex (.cons pa34_ex (.cons tx34_ex ExOk.nil))))))) rfl (by kernel_rfl)
end Go.Vc
namespace Go.Vc
open Go.Proofs
section
variable {P : Program} {n : Nat} {t : TypeId} {vs : List V}
set_option maxRecDepth 100000 in
theorem shpI_int {k : IntKind} (ht : P.underlying t = some (.int k)) (h : ShpC P (n + 1) t vs) : ∃ m, vs = [.int k m] ∧ (Lit.int k m).wf = true := by
  simpa only [ShpC,ht] using h
set_option maxRecDepth 100000 in
theorem shpI_slice {e : TypeId} (ht : P.underlying t = some (.slice e)) (h : ShpC P (n + 1) t vs) : ∃ rows, vs = [.sl (P.cellsOf e) rows] ∧ rows.length * P.bytesOf e ≤ reachBytes ∧ ∀ r ∈ rows, ∃ cs, ShpC P n e cs ∧ r = rowOf (aggT P e) cs := by
  simpa only [ShpC,ht] using h
set_option maxRecDepth 100000 in
theorem shpI_struct {fs : Array Field} (ht : P.underlying t = some (.struct fs)) (h : ShpC P (n + 1) t vs) : ShpFs (ShpC P n) fs.toList vs := by
  simpa only [ShpC,ht] using h
end
set_option maxRecDepth 100000
theorem cells_row : Tryz.prog.cellsOf 38 = 3 := by kernel_rfl
theorem agg_row : aggT Tryz.prog 38 = true := by kernel_rfl
theorem agg_rows : aggT Tryz.prog 22 = false := by kernel_rfl
theorem arg_rows {n : Nat} {vs : List V} (h : ShpC Tryz.prog (n + 3) 22 vs) : ∃ l, argOf Tryz.prog 22 vs = encRws l := by
  obtain ⟨rows, rfl, _, h⟩ := shpI_slice Tryz.underlying22 h
  have key : ∀ rows : List V, (∀ r ∈ rows, ∃ cs, ShpC Tryz.prog (n + 2) 38 cs ∧ r = rowOf (aggT Tryz.prog 38) cs) → ∃ l : List R3, rows = l.map encR3 := by
    intro rows h
    induction rows with
    | nil => exact ⟨[], rfl⟩
    | cons r rows ih =>
      obtain ⟨l, rfl⟩ := ih fun q hq => h q (List.mem_cons_of_mem _ hq)
      obtain ⟨cs, hc, rfl⟩ := h r (by simp)
      replace hc := shpI_struct Tryz.underlying38 hc
      simp only [ShpFs] at hc
      obtain ⟨_, _, rfl, h1, _, _, rfl, h2, _, _, rfl, h3, rfl⟩ := hc
      obtain ⟨m1, rfl, _⟩ := shpI_int Tryz.underlying3 h1
      obtain ⟨m2, rfl, _⟩ := shpI_int Tryz.underlying3 h2
      obtain ⟨m3, rfl, _⟩ := shpI_int Tryz.underlying3 h3
      exact ⟨⟨m1, m2, m3⟩ :: l, by rw [agg_row]; rfl⟩
  obtain ⟨l, rfl⟩ := key rows h
  exact ⟨l, by unfold argOf; rw [agg_rows, cells_row]; rfl⟩
end Go.Vc
