/- Part 10 of the library of this proof. -/
import Derived.Test.YtkmjiefaneibjaaGreatW9
import Derived.Test.YtkmjiefaneibjaaGreatProg
import Derived.KernelRfl
set_option linter.all false
namespace Go.Vc
open Go.Proofs
set_option maxRecDepth 1000000
def d3s : V := .str [91, 66, 51, 32, 123, 51, 32, 54, 125, 93]
def d3n_0 : V := (.sl 20 [(.agg [(.int .i64 1), (.int .i64 2), (.int .i64 0), (.int .i64 0), (.int .i64 0), (.int .i64 0), (.int .i64 0), (.int .i64 2), (.int .i64 2), (.int .i64 0), (.int .i64 3), (.int .i64 0), (.int .i64 0), (.int .i64 0), (.int .i64 0), (.int .i64 0), .nils, (.int .i64 0), (.int .i64 0), (.int .i64 0)]), (.agg [(.int .i64 3), (.int .i64 1), (.int .i64 0), (.int .i64 0), (.int .i64 0), (.int .i64 0), (.int .i64 0), (.int .i64 0), (.int .i64 0), (.int .i64 0), (.int .i64 0), (.int .i64 0), (.int .i64 0), (.int .i64 0), (.int .i64 0), (.int .i64 0), .nils, (.int .i64 0), (.int .i64 3), (.int .i64 6)])])
def d3n_1 : V := (.int .i64 0)
def d3n_2 : V := (.int .i64 0)
theorem d3n_ex : PFun Tryz.prog 37 [d3s] (.tup [d3n_0, d3n_1, d3n_2]) := ex_of mixO [69, 67, 161, 195, 74, 37, 53, 6, 111, 187, 139, 140, 43, 71, 87, 47, 48, 62, 63, 28, 68, 38, 39] (E := []) ExOk.nil rfl (by kernel_rfl)
def d3vi_0 : V := (.bool .true)
theorem d3vi_ex : PFun Tryz.prog 87 [d3n_0] d3vi_0 := ex_of mixO [69, 67, 161, 195, 74, 37, 53, 6, 111, 187, 139, 140, 43, 71, 87, 47, 48, 62, 63, 28, 68, 38, 39] (E := []) ExOk.nil rfl (by kernel_rfl)
def d3vc_0 : V := (.int .i64 0)
theorem d3vc_ex : PFun Tryz.prog 71 [d3n_0] d3vc_0 := ex_of mixO [69, 67, 161, 195, 74, 37, 53, 6, 111, 187, 139, 140, 43, 71, 87, 47, 48, 62, 63, 28, 68, 38, 39] (E := [(87, [d3n_0], d3vi_0)]) (.cons d3vi_ex ExOk.nil) rfl (by kernel_rfl)
def d3vn_0 : V := (.agg [(.int .i64 1), (.int .i64 1), (.int .i64 2), (.int .i64 6)])
def d3vn_1 : V := (.int .i64 0)
theorem d3vn_ex : PFun Tryz.prog 72 [d3n_0] (.tup [d3vn_0, d3vn_1]) := ex_of mixO [69, 67, 161, 195, 74, 37, 53, 6, 111, 187, 139, 140, 43, 71, 87, 47, 48, 62, 63, 28, 68, 38, 39] (E := [(87, [d3n_0], d3vi_0)]) (.cons d3vi_ex ExOk.nil) rfl (by kernel_rfl)
def d3fl_0 : V := (.agg [(.sl 8 [(.agg [(.int .i64 2), (.int .i64 1), (.int .i64 0), (.int .i64 0), (.int .i64 0), (.int .i64 0), (.int .i64 3), (.int .i64 6)])]), .nils, (.int .i64 6)])
def d3fl_1 : V := (.int .i64 0)
theorem d3fl_ex : PFun Tryz.prog 77 [d3n_0, .int .i64 8] (.tup [d3fl_0, d3fl_1]) := ex_of mixO [69, 67, 161, 195, 74, 37, 53, 6, 111, 187, 139, 140, 43, 71, 87, 47, 48, 62, 63, 28, 68, 38, 39] (E := [(71, [d3n_0], d3vc_0)]) (.cons d3vc_ex ExOk.nil) rfl (by kernel_rfl)
def d3of : V := .sl 1 [.int .i64 1]
def d3kc_0 : V := (.int .i64 0)
theorem d3kc_ex : PFun Tryz.prog 111 [d3n_0, d3of] d3kc_0 := ex_of mixO [69, 67, 161, 195, 74, 37, 53, 6, 111, 187, 139, 140, 43, 71, 87, 47, 48, 62, 63, 28, 68, 38, 39] (E := [(87, [d3n_0], d3vi_0)]) (.cons d3vi_ex ExOk.nil) rfl (by kernel_rfl)
def d3ka0_0 : V := (.agg [.nils, (.sl 1 [(.int .i64 0)]), .nils, (.int .i64 (-1))])
def d3ka0_1 : V := (.int .i64 0)
theorem d3ka0_ex : PFun Tryz.prog 187 [d3n_0, d3of, .int .i64 0] (.tup [d3ka0_0, d3ka0_1]) := ex_of mixO [69, 67, 161, 195, 74, 37, 53, 6, 111, 187, 139, 140, 43, 71, 87, 47, 48, 62, 63, 28, 68, 38, 39] (E := [(111, [d3n_0, d3of], d3kc_0)]) (.cons d3kc_ex ExOk.nil) rfl (by kernel_rfl)
def d3fa0_0 : V := (.int .i64 3)
def d3fa0_1 : V := (.int .i64 0)
theorem d3fa0_ex : PFun Tryz.prog 139 [d3n_0, d3of, .int .i64 0] (.tup [d3fa0_0, d3fa0_1]) := ex_of mixO [69, 67, 161, 195, 74, 37, 53, 6, 111, 187, 139, 140, 43, 71, 87, 47, 48, 62, 63, 28, 68, 38, 39] (E := [(187, [d3n_0, d3of, .int .i64 0], (.tup [d3ka0_0, d3ka0_1]))]) (.cons d3ka0_ex ExOk.nil) rfl (by kernel_rfl)
def d3ra0_0 : V := (.int .i64 0)
def d3ra0_1 : V := (.int .i64 0)
theorem d3ra0_ex : PFun Tryz.prog 140 [d3n_0, d3of, .int .i64 0] (.tup [d3ra0_0, d3ra0_1]) := ex_of mixO [69, 67, 161, 195, 74, 37, 53, 6, 111, 187, 139, 140, 43, 71, 87, 47, 48, 62, 63, 28, 68, 38, 39] (E := [(187, [d3n_0, d3of, .int .i64 0], (.tup [d3ka0_0, d3ka0_1]))]) (.cons d3ka0_ex ExOk.nil) rfl (by kernel_rfl)
def d3ka1_0 : V := (.agg [(.sl 1 [(.int .i64 0)]), .nils, .nils, (.int .i64 (-1))])
def d3ka1_1 : V := (.int .i64 0)
theorem d3ka1_ex : PFun Tryz.prog 187 [d3n_0, d3of, .int .i64 1] (.tup [d3ka1_0, d3ka1_1]) := ex_of mixO [69, 67, 161, 195, 74, 37, 53, 6, 111, 187, 139, 140, 43, 71, 87, 47, 48, 62, 63, 28, 68, 38, 39] (E := [(111, [d3n_0, d3of], d3kc_0)]) (.cons d3kc_ex ExOk.nil) rfl (by kernel_rfl)
def d3fa1_0 : V := (.int .i64 0)
def d3fa1_1 : V := (.int .i64 0)
theorem d3fa1_ex : PFun Tryz.prog 139 [d3n_0, d3of, .int .i64 1] (.tup [d3fa1_0, d3fa1_1]) := ex_of mixO [69, 67, 161, 195, 74, 37, 53, 6, 111, 187, 139, 140, 43, 71, 87, 47, 48, 62, 63, 28, 68, 38, 39] (E := [(187, [d3n_0, d3of, .int .i64 1], (.tup [d3ka1_0, d3ka1_1]))]) (.cons d3ka1_ex ExOk.nil) rfl (by kernel_rfl)
def d3ra1_0 : V := (.int .i64 0)
def d3ra1_1 : V := (.int .i64 0)
theorem d3ra1_ex : PFun Tryz.prog 140 [d3n_0, d3of, .int .i64 1] (.tup [d3ra1_0, d3ra1_1]) := ex_of mixO [69, 67, 161, 195, 74, 37, 53, 6, 111, 187, 139, 140, 43, 71, 87, 47, 48, 62, 63, 28, 68, 38, 39] (E := [(187, [d3n_0, d3of, .int .i64 1], (.tup [d3ka1_0, d3ka1_1]))]) (.cons d3ka1_ex ExOk.nil) rfl (by kernel_rfl)
def d3hl_0 : V := (.int .i64 20)
theorem d3hl_ex : PFun Tryz.prog 74 [d3n_0, .int .i64 20] d3hl_0 := ex_of mixO [69, 67, 161, 195, 74, 37, 53, 6, 111, 187, 139, 140, 43, 71, 87, 47, 48, 62, 63, 28, 68, 38, 39] (E := [(87, [d3n_0], d3vi_0)]) (.cons d3vi_ex ExOk.nil) rfl (by kernel_rfl)
def d3nw_0 : V := (.rp (.agg [(.sl 20 [(.agg [(.int .i64 1), (.int .i64 2), (.int .i64 0), (.int .i64 0), (.int .i64 0), (.int .i64 0), (.int .i64 0), (.int .i64 2), (.int .i64 2), (.int .i64 0), (.int .i64 3), (.int .i64 0), (.int .i64 0), (.int .i64 0), (.int .i64 0), (.int .i64 0), .nils, (.int .i64 0), (.int .i64 0), (.int .i64 0)]), (.agg [(.int .i64 3), (.int .i64 1), (.int .i64 0), (.int .i64 0), (.int .i64 0), (.int .i64 0), (.int .i64 0), (.int .i64 0), (.int .i64 0), (.int .i64 0), (.int .i64 0), (.int .i64 0), (.int .i64 0), (.int .i64 0), (.int .i64 0), (.int .i64 0), .nils, (.int .i64 0), (.int .i64 3), (.int .i64 6)])]), (.int .i64 8), (.int .i64 20), (.sl 8 [(.agg [(.int .i64 2), (.int .i64 1), (.int .i64 0), (.int .i64 0), (.int .i64 0), (.int .i64 0), (.int .i64 3), (.int .i64 6)])]), .nils, (.int .i64 6), (.sl 3 [(.agg [(.int .i64 0), (.int .i64 3), (.int .i64 0)]), (.agg [(.int .i64 3), (.int .i64 0), (.int .i64 0)])])]))
def d3nw_1 : V := (.int .i64 0)
theorem d3nw_ex : PFun Tryz.prog 53 [d3n_0, .int .i64 8, .int .i64 20] (.tup [d3nw_0, d3nw_1]) := ex_of mixO [69, 67, 161, 195, 74, 37, 53, 6, 111, 187, 139, 140, 43, 71, 87, 47, 48, 62, 63, 28, 68, 38, 39] (E := [(71, [d3n_0], d3vc_0), (72, [d3n_0], (.tup [d3vn_0, d3vn_1])), (77, [d3n_0, .int .i64 8], (.tup [d3fl_0, d3fl_1])), (111, [d3n_0, d3of], d3kc_0), (139, [d3n_0, d3of, .int .i64 0], (.tup [d3fa0_0, d3fa0_1])), (140, [d3n_0, d3of, .int .i64 0], (.tup [d3ra0_0, d3ra0_1])), (139, [d3n_0, d3of, .int .i64 1], (.tup [d3fa1_0, d3fa1_1])), (140, [d3n_0, d3of, .int .i64 1], (.tup [d3ra1_0, d3ra1_1])), (74, [d3n_0, .int .i64 20], d3hl_0)]) (.cons d3vc_ex (.cons d3vn_ex (.cons d3fl_ex (.cons d3kc_ex (.cons d3fa0_ex (.cons d3ra0_ex (.cons d3fa1_ex (.cons d3ra1_ex (.cons d3hl_ex ExOk.nil))))))))) rfl (by kernel_rfl)
def d3p0_0 : V := (.agg [(.int .i64 0), (.int .i64 1), .nils, (.sl 7 [(.agg [(.int .i64 1), (.int .i64 0), (.int .i64 0), (.int .i64 0), (.int .i64 0), (.int .i64 3), (.int .i64 6)])]), .nils])
def d3p0_1 : V := (.agg [(.int .i64 1), (.int .i64 0), (.bool .false), .nils])
def d3p0_2 : V := (.int .i64 0)
theorem d3p0_ex : PFun Tryz.prog 6 [d3nw_0, b26] (.tup [d3p0_0, d3p0_1, d3p0_2]) := ex_of mixO [69, 67, 161, 195, 74, 37, 53, 6, 111, 187, 139, 140, 43, 71, 87, 47, 48, 62, 63, 28, 68, 38, 39] (E := [(87, [d3n_0], d3vi_0)]) (.cons d3vi_ex ExOk.nil) rfl (by kernel_rfl)
def d3of2_0 : V := (.sl 5 [(.agg [(.int .i64 1), (.int .i64 3), .nils, .nils, .nils]), (.agg [(.int .i64 2), (.int .i64 1), .nils, (.sl 7 [(.agg [(.int .i64 1), (.int .i64 0), (.int .i64 0), (.int .i64 0), (.int .i64 0), (.int .i64 3), (.int .i64 6)])]), .nils])])
def d3of2_1 : V := (.int .i64 0)
theorem d3of2_ex : PFun Tryz.prog 38 [d3n_0, .int .i64 8, .int .i64 20] (.tup [d3of2_0, d3of2_1]) := ex_of mixO [69, 67, 161, 195, 74, 37, 53, 6, 111, 187, 139, 140, 43, 71, 87, 47, 48, 62, 63, 28, 68, 38, 39] (E := [(53, [d3n_0, .int .i64 8, .int .i64 20], (.tup [d3nw_0, d3nw_1])), (6, [d3nw_0, b26], (.tup [d3p0_0, d3p0_1, d3p0_2]))]) (.cons d3nw_ex (.cons d3p0_ex ExOk.nil)) rfl (by kernel_rfl)
def d3is_0 : V := (.bool .true)
theorem d3is_ex : PFun Tryz.prog 39 [d3s, .str [51, 49], .str [48, 49]] d3is_0 := ex_of mixO [69, 67, 161, 195, 74, 37, 53, 6, 111, 187, 139, 140, 43, 71, 87, 47, 48, 62, 63, 28, 68, 38, 39] (E := [(37, [d3s], (.tup [d3n_0, d3n_1, d3n_2])), (38, [d3n_0, .int .i64 8, .int .i64 20], (.tup [d3of2_0, d3of2_1]))]) (.cons d3n_ex (.cons d3of2_ex ExOk.nil)) rfl (by kernel_rfl)
end Go.Vc
