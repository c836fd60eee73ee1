/- Part 7 of the library of this proof. -/
import Derived.Test.YtkmjiefaneibjaaGreatW6
import Derived.Test.YtkmjiefaneibjaaGreatProg
import Derived.KernelRfl
set_option linter.all false
namespace Go.Vc
open Go.Proofs
set_option maxRecDepth 1000000
theorem mixO : Tryz.prog.follows .mixedOrders = true := by kernel_rfl
def d0s : V := .str [123, 51, 32, 52, 53, 125]
def d0n_0 : V := (.sl 20 [(.agg [(.int .i64 3), (.int .i64 1), (.int .i64 0), (.int .i64 0), (.int .i64 0), (.int .i64 0), (.int .i64 0), (.int .i64 0), (.int .i64 0), (.int .i64 0), (.int .i64 0), (.int .i64 0), (.int .i64 0), (.int .i64 0), (.int .i64 0), (.int .i64 0), .nils, (.int .i64 0), (.int .i64 3), (.int .i64 45)])])
def d0n_1 : V := (.int .i64 0)
def d0n_2 : V := (.int .i64 0)
theorem d0n_ex : PFun Tryz.prog 37 [d0s] (.tup [d0n_0, d0n_1, d0n_2]) := ex_of mixO [69, 67, 161, 195, 74, 37, 53, 6, 111, 187, 139, 140, 43, 71, 87, 47, 48, 62, 63, 28, 68, 38, 39] (E := []) ExOk.nil rfl (by kernel_rfl)
def d0vi_0 : V := (.bool .true)
theorem d0vi_ex : PFun Tryz.prog 87 [d0n_0] d0vi_0 := ex_of mixO [69, 67, 161, 195, 74, 37, 53, 6, 111, 187, 139, 140, 43, 71, 87, 47, 48, 62, 63, 28, 68, 38, 39] (E := []) ExOk.nil rfl (by kernel_rfl)
def d0vc_0 : V := (.int .i64 0)
theorem d0vc_ex : PFun Tryz.prog 71 [d0n_0] d0vc_0 := ex_of mixO [69, 67, 161, 195, 74, 37, 53, 6, 111, 187, 139, 140, 43, 71, 87, 47, 48, 62, 63, 28, 68, 38, 39] (E := [(87, [d0n_0], d0vi_0)]) (.cons d0vi_ex ExOk.nil) rfl (by kernel_rfl)
def d0vn_0 : V := (.agg [(.int .i64 0), (.int .i64 1), (.int .i64 1), (.int .i64 45)])
def d0vn_1 : V := (.int .i64 0)
theorem d0vn_ex : PFun Tryz.prog 72 [d0n_0] (.tup [d0vn_0, d0vn_1]) := ex_of mixO [69, 67, 161, 195, 74, 37, 53, 6, 111, 187, 139, 140, 43, 71, 87, 47, 48, 62, 63, 28, 68, 38, 39] (E := [(87, [d0n_0], d0vi_0)]) (.cons d0vi_ex ExOk.nil) rfl (by kernel_rfl)
def d0fl_0 : V := (.agg [(.sl 8 [(.agg [(.int .i64 2), (.int .i64 0), (.int .i64 0), (.int .i64 0), (.int .i64 0), (.int .i64 0), (.int .i64 3), (.int .i64 45)])]), .nils, (.int .i64 45)])
def d0fl_1 : V := (.int .i64 0)
theorem d0fl_ex : PFun Tryz.prog 77 [d0n_0, .int .i64 8] (.tup [d0fl_0, d0fl_1]) := ex_of mixO [69, 67, 161, 195, 74, 37, 53, 6, 111, 187, 139, 140, 43, 71, 87, 47, 48, 62, 63, 28, 68, 38, 39] (E := [(71, [d0n_0], d0vc_0)]) (.cons d0vc_ex ExOk.nil) rfl (by kernel_rfl)
def d0of : V := .sl 1 [.int .i64 0]
def d0kc_0 : V := (.int .i64 0)
theorem d0kc_ex : PFun Tryz.prog 111 [d0n_0, d0of] d0kc_0 := ex_of mixO [69, 67, 161, 195, 74, 37, 53, 6, 111, 187, 139, 140, 43, 71, 87, 47, 48, 62, 63, 28, 68, 38, 39] (E := [(87, [d0n_0], d0vi_0)]) (.cons d0vi_ex ExOk.nil) rfl (by kernel_rfl)
def d0ka0_0 : V := (.agg [.nils, .nils, .nils, (.int .i64 (-1))])
def d0ka0_1 : V := (.int .i64 0)
theorem d0ka0_ex : PFun Tryz.prog 187 [d0n_0, d0of, .int .i64 0] (.tup [d0ka0_0, d0ka0_1]) := ex_of mixO [69, 67, 161, 195, 74, 37, 53, 6, 111, 187, 139, 140, 43, 71, 87, 47, 48, 62, 63, 28, 68, 38, 39] (E := [(111, [d0n_0, d0of], d0kc_0)]) (.cons d0kc_ex ExOk.nil) rfl (by kernel_rfl)
def d0fa0_0 : V := (.int .i64 0)
def d0fa0_1 : V := (.int .i64 0)
theorem d0fa0_ex : PFun Tryz.prog 139 [d0n_0, d0of, .int .i64 0] (.tup [d0fa0_0, d0fa0_1]) := ex_of mixO [69, 67, 161, 195, 74, 37, 53, 6, 111, 187, 139, 140, 43, 71, 87, 47, 48, 62, 63, 28, 68, 38, 39] (E := [(187, [d0n_0, d0of, .int .i64 0], (.tup [d0ka0_0, d0ka0_1]))]) (.cons d0ka0_ex ExOk.nil) rfl (by kernel_rfl)
def d0ra0_0 : V := (.int .i64 0)
def d0ra0_1 : V := (.int .i64 0)
theorem d0ra0_ex : PFun Tryz.prog 140 [d0n_0, d0of, .int .i64 0] (.tup [d0ra0_0, d0ra0_1]) := ex_of mixO [69, 67, 161, 195, 74, 37, 53, 6, 111, 187, 139, 140, 43, 71, 87, 47, 48, 62, 63, 28, 68, 38, 39] (E := [(187, [d0n_0, d0of, .int .i64 0], (.tup [d0ka0_0, d0ka0_1]))]) (.cons d0ka0_ex ExOk.nil) rfl (by kernel_rfl)
def d0ka1_0 : V := (.agg [.nils, .nils, .nils, (.int .i64 (-1))])
def d0ka1_1 : V := (.int .i64 0)
theorem d0ka1_ex : PFun Tryz.prog 187 [d0n_0, d0of, .int .i64 1] (.tup [d0ka1_0, d0ka1_1]) := ex_of mixO [69, 67, 161, 195, 74, 37, 53, 6, 111, 187, 139, 140, 43, 71, 87, 47, 48, 62, 63, 28, 68, 38, 39] (E := [(111, [d0n_0, d0of], d0kc_0)]) (.cons d0kc_ex ExOk.nil) rfl (by kernel_rfl)
def d0fa1_0 : V := (.int .i64 0)
def d0fa1_1 : V := (.int .i64 0)
theorem d0fa1_ex : PFun Tryz.prog 139 [d0n_0, d0of, .int .i64 1] (.tup [d0fa1_0, d0fa1_1]) := ex_of mixO [69, 67, 161, 195, 74, 37, 53, 6, 111, 187, 139, 140, 43, 71, 87, 47, 48, 62, 63, 28, 68, 38, 39] (E := [(187, [d0n_0, d0of, .int .i64 1], (.tup [d0ka1_0, d0ka1_1]))]) (.cons d0ka1_ex ExOk.nil) rfl (by kernel_rfl)
def d0ra1_0 : V := (.int .i64 0)
def d0ra1_1 : V := (.int .i64 0)
theorem d0ra1_ex : PFun Tryz.prog 140 [d0n_0, d0of, .int .i64 1] (.tup [d0ra1_0, d0ra1_1]) := ex_of mixO [69, 67, 161, 195, 74, 37, 53, 6, 111, 187, 139, 140, 43, 71, 87, 47, 48, 62, 63, 28, 68, 38, 39] (E := [(187, [d0n_0, d0of, .int .i64 1], (.tup [d0ka1_0, d0ka1_1]))]) (.cons d0ka1_ex ExOk.nil) rfl (by kernel_rfl)
def d0hl_0 : V := (.int .i64 20)
theorem d0hl_ex : PFun Tryz.prog 74 [d0n_0, .int .i64 20] d0hl_0 := ex_of mixO [69, 67, 161, 195, 74, 37, 53, 6, 111, 187, 139, 140, 43, 71, 87, 47, 48, 62, 63, 28, 68, 38, 39] (E := [(87, [d0n_0], d0vi_0)]) (.cons d0vi_ex ExOk.nil) rfl (by kernel_rfl)
def d0nw_0 : V := (.rp (.agg [(.sl 20 [(.agg [(.int .i64 3), (.int .i64 1), (.int .i64 0), (.int .i64 0), (.int .i64 0), (.int .i64 0), (.int .i64 0), (.int .i64 0), (.int .i64 0), (.int .i64 0), (.int .i64 0), (.int .i64 0), (.int .i64 0), (.int .i64 0), (.int .i64 0), (.int .i64 0), .nils, (.int .i64 0), (.int .i64 3), (.int .i64 45)])]), (.int .i64 8), (.int .i64 20), (.sl 8 [(.agg [(.int .i64 2), (.int .i64 0), (.int .i64 0), (.int .i64 0), (.int .i64 0), (.int .i64 0), (.int .i64 3), (.int .i64 45)])]), .nils, (.int .i64 45), (.sl 3 [(.agg [(.int .i64 0), (.int .i64 0), (.int .i64 0)]), (.agg [(.int .i64 3), (.int .i64 0), (.int .i64 0)])])]))
def d0nw_1 : V := (.int .i64 0)
theorem d0nw_ex : PFun Tryz.prog 53 [d0n_0, .int .i64 8, .int .i64 20] (.tup [d0nw_0, d0nw_1]) := ex_of mixO [69, 67, 161, 195, 74, 37, 53, 6, 111, 187, 139, 140, 43, 71, 87, 47, 48, 62, 63, 28, 68, 38, 39] (E := [(71, [d0n_0], d0vc_0), (72, [d0n_0], (.tup [d0vn_0, d0vn_1])), (77, [d0n_0, .int .i64 8], (.tup [d0fl_0, d0fl_1])), (111, [d0n_0, d0of], d0kc_0), (139, [d0n_0, d0of, .int .i64 0], (.tup [d0fa0_0, d0fa0_1])), (140, [d0n_0, d0of, .int .i64 0], (.tup [d0ra0_0, d0ra0_1])), (139, [d0n_0, d0of, .int .i64 1], (.tup [d0fa1_0, d0fa1_1])), (140, [d0n_0, d0of, .int .i64 1], (.tup [d0ra1_0, d0ra1_1])), (74, [d0n_0, .int .i64 20], d0hl_0)]) (.cons d0vc_ex (.cons d0vn_ex (.cons d0fl_ex (.cons d0kc_ex (.cons d0fa0_ex (.cons d0ra0_ex (.cons d0fa1_ex (.cons d0ra1_ex (.cons d0hl_ex ExOk.nil))))))))) rfl (by kernel_rfl)
def b26 : V := .agg [.int .i64 0, .int .i64 0, .bool true, .nils]
def d0p0_0 : V := (.agg [(.int .i64 0), (.int .i64 1), .nils, (.sl 7 [(.agg [(.int .i64 0), (.int .i64 0), (.int .i64 0), (.int .i64 0), (.int .i64 0), (.int .i64 3), (.int .i64 20)])]), .nils])
def d0p0_1 : V := (.agg [(.int .i64 0), (.int .i64 20), (.bool .false), .nils])
def d0p0_2 : V := (.int .i64 0)
theorem d0p0_ex : PFun Tryz.prog 6 [d0nw_0, b26] (.tup [d0p0_0, d0p0_1, d0p0_2]) := ex_of mixO [69, 67, 161, 195, 74, 37, 53, 6, 111, 187, 139, 140, 43, 71, 87, 47, 48, 62, 63, 28, 68, 38, 39] (E := [(87, [d0n_0], d0vi_0)]) (.cons d0vi_ex ExOk.nil) rfl (by kernel_rfl)
def d0p1_0 : V := (.agg [(.int .i64 0), (.int .i64 1), .nils, (.sl 7 [(.agg [(.int .i64 0), (.int .i64 0), (.int .i64 20), (.int .i64 0), (.int .i64 0), (.int .i64 3), (.int .i64 20)])]), .nils])
def d0p1_1 : V := (.agg [(.int .i64 0), (.int .i64 40), (.bool .false), .nils])
def d0p1_2 : V := (.int .i64 0)
theorem d0p1_ex : PFun Tryz.prog 6 [d0nw_0, d0p0_1] (.tup [d0p1_0, d0p1_1, d0p1_2]) := ex_of mixO [69, 67, 161, 195, 74, 37, 53, 6, 111, 187, 139, 140, 43, 71, 87, 47, 48, 62, 63, 28, 68, 38, 39] (E := [(87, [d0n_0], d0vi_0)]) (.cons d0vi_ex ExOk.nil) rfl (by kernel_rfl)
def d0p2_0 : V := (.agg [(.int .i64 0), (.int .i64 1), .nils, (.sl 7 [(.agg [(.int .i64 0), (.int .i64 0), (.int .i64 40), (.int .i64 0), (.int .i64 0), (.int .i64 3), (.int .i64 5)])]), .nils])
def d0p2_1 : V := (.agg [(.int .i64 1), (.int .i64 0), (.bool .false), .nils])
def d0p2_2 : V := (.int .i64 0)
theorem d0p2_ex : PFun Tryz.prog 6 [d0nw_0, d0p1_1] (.tup [d0p2_0, d0p2_1, d0p2_2]) := ex_of mixO [69, 67, 161, 195, 74, 37, 53, 6, 111, 187, 139, 140, 43, 71, 87, 47, 48, 62, 63, 28, 68, 38, 39] (E := [(87, [d0n_0], d0vi_0)]) (.cons d0vi_ex ExOk.nil) rfl (by kernel_rfl)
def d0of2_0 : V := (.sl 5 [(.agg [(.int .i64 1), (.int .i64 1), .nils, (.sl 7 [(.agg [(.int .i64 0), (.int .i64 0), (.int .i64 0), (.int .i64 0), (.int .i64 0), (.int .i64 3), (.int .i64 20)])]), .nils]), (.agg [(.int .i64 2), (.int .i64 1), .nils, (.sl 7 [(.agg [(.int .i64 0), (.int .i64 0), (.int .i64 20), (.int .i64 0), (.int .i64 0), (.int .i64 3), (.int .i64 20)])]), .nils]), (.agg [(.int .i64 3), (.int .i64 1), .nils, (.sl 7 [(.agg [(.int .i64 0), (.int .i64 0), (.int .i64 40), (.int .i64 0), (.int .i64 0), (.int .i64 3), (.int .i64 5)])]), .nils])])
def d0of2_1 : V := (.int .i64 0)
theorem d0of2_ex : PFun Tryz.prog 38 [d0n_0, .int .i64 8, .int .i64 20] (.tup [d0of2_0, d0of2_1]) := ex_of mixO [69, 67, 161, 195, 74, 37, 53, 6, 111, 187, 139, 140, 43, 71, 87, 47, 48, 62, 63, 28, 68, 38, 39] (E := [(53, [d0n_0, .int .i64 8, .int .i64 20], (.tup [d0nw_0, d0nw_1])), (6, [d0nw_0, b26], (.tup [d0p0_0, d0p0_1, d0p0_2])), (6, [d0nw_0, d0p0_1], (.tup [d0p1_0, d0p1_1, d0p1_2])), (6, [d0nw_0, d0p1_1], (.tup [d0p2_0, d0p2_1, d0p2_2]))]) (.cons d0nw_ex (.cons d0p0_ex (.cons d0p1_ex (.cons d0p2_ex ExOk.nil)))) rfl (by kernel_rfl)
def d0is_0 : V := (.bool .true)
theorem d0is_ex : PFun Tryz.prog 39 [d0s, .str [49, 49, 49], .str [49, 49, 49]] d0is_0 := ex_of mixO [69, 67, 161, 195, 74, 37, 53, 6, 111, 187, 139, 140, 43, 71, 87, 47, 48, 62, 63, 28, 68, 38, 39] (E := [(37, [d0s], (.tup [d0n_0, d0n_1, d0n_2])), (38, [d0n_0, .int .i64 8, .int .i64 20], (.tup [d0of2_0, d0of2_1]))]) (.cons d0n_ex (.cons d0of2_ex ExOk.nil)) rfl (by kernel_rfl)
end Go.Vc
