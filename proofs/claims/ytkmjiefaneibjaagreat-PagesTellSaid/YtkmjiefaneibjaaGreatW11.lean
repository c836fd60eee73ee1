/- Part 11 of the library of this proof. -/
import Derived.Test.YtkmjiefaneibjaaGreatW10
import Derived.Test.YtkmjiefaneibjaaGreatProg
import Derived.KernelRfl
set_option linter.all false
namespace Go.Vc
open Go.Proofs
set_option maxRecDepth 1000000
def d4s : V := .str []
def d4n_0 : V := .nils
def d4n_1 : V := (.int .i64 0)
def d4n_2 : V := (.int .i64 0)
theorem d4n_ex : PFun Tryz.prog 37 [d4s] (.tup [d4n_0, d4n_1, d4n_2]) := ex_of mixO [69, 67, 161, 195, 74, 37, 53, 6, 111, 187, 139, 140, 43, 71, 87, 47, 48, 62, 63, 28, 68, 38, 39] (E := []) ExOk.nil rfl (by kernel_rfl)
def d4vi_0 : V := (.bool .true)
theorem d4vi_ex : PFun Tryz.prog 87 [d4n_0] d4vi_0 := ex_of mixO [69, 67, 161, 195, 74, 37, 53, 6, 111, 187, 139, 140, 43, 71, 87, 47, 48, 62, 63, 28, 68, 38, 39] (E := []) ExOk.nil rfl (by kernel_rfl)
def d4vc_0 : V := (.int .i64 0)
theorem d4vc_ex : PFun Tryz.prog 71 [d4n_0] d4vc_0 := ex_of mixO [69, 67, 161, 195, 74, 37, 53, 6, 111, 187, 139, 140, 43, 71, 87, 47, 48, 62, 63, 28, 68, 38, 39] (E := [(87, [d4n_0], d4vi_0)]) (.cons d4vi_ex ExOk.nil) rfl (by kernel_rfl)
def d4vn_0 : V := (.agg [(.int .i64 0), (.int .i64 0), (.int .i64 0), (.int .i64 0)])
def d4vn_1 : V := (.int .i64 0)
theorem d4vn_ex : PFun Tryz.prog 72 [d4n_0] (.tup [d4vn_0, d4vn_1]) := ex_of mixO [69, 67, 161, 195, 74, 37, 53, 6, 111, 187, 139, 140, 43, 71, 87, 47, 48, 62, 63, 28, 68, 38, 39] (E := [(87, [d4n_0], d4vi_0)]) (.cons d4vi_ex ExOk.nil) rfl (by kernel_rfl)
def d4fl_0 : V := (.agg [.nils, .nils, (.int .i64 0)])
def d4fl_1 : V := (.int .i64 0)
theorem d4fl_ex : PFun Tryz.prog 77 [d4n_0, .int .i64 8] (.tup [d4fl_0, d4fl_1]) := ex_of mixO [69, 67, 161, 195, 74, 37, 53, 6, 111, 187, 139, 140, 43, 71, 87, 47, 48, 62, 63, 28, 68, 38, 39] (E := [(71, [d4n_0], d4vc_0)]) (.cons d4vc_ex ExOk.nil) rfl (by kernel_rfl)
def d4of : V := .nils
def d4kc_0 : V := (.int .i64 0)
theorem d4kc_ex : PFun Tryz.prog 111 [d4n_0, d4of] d4kc_0 := ex_of mixO [69, 67, 161, 195, 74, 37, 53, 6, 111, 187, 139, 140, 43, 71, 87, 47, 48, 62, 63, 28, 68, 38, 39] (E := [(87, [d4n_0], d4vi_0)]) (.cons d4vi_ex ExOk.nil) rfl (by kernel_rfl)
def d4ka0_0 : V := (.agg [.nils, .nils, .nils, (.int .i64 (-1))])
def d4ka0_1 : V := (.int .i64 0)
theorem d4ka0_ex : PFun Tryz.prog 187 [d4n_0, d4of, .int .i64 0] (.tup [d4ka0_0, d4ka0_1]) := ex_of mixO [69, 67, 161, 195, 74, 37, 53, 6, 111, 187, 139, 140, 43, 71, 87, 47, 48, 62, 63, 28, 68, 38, 39] (E := [(111, [d4n_0, d4of], d4kc_0)]) (.cons d4kc_ex ExOk.nil) rfl (by kernel_rfl)
def d4fa0_0 : V := (.int .i64 0)
def d4fa0_1 : V := (.int .i64 0)
theorem d4fa0_ex : PFun Tryz.prog 139 [d4n_0, d4of, .int .i64 0] (.tup [d4fa0_0, d4fa0_1]) := ex_of mixO [69, 67, 161, 195, 74, 37, 53, 6, 111, 187, 139, 140, 43, 71, 87, 47, 48, 62, 63, 28, 68, 38, 39] (E := [(187, [d4n_0, d4of, .int .i64 0], (.tup [d4ka0_0, d4ka0_1]))]) (.cons d4ka0_ex ExOk.nil) rfl (by kernel_rfl)
def d4ra0_0 : V := (.int .i64 0)
def d4ra0_1 : V := (.int .i64 0)
theorem d4ra0_ex : PFun Tryz.prog 140 [d4n_0, d4of, .int .i64 0] (.tup [d4ra0_0, d4ra0_1]) := ex_of mixO [69, 67, 161, 195, 74, 37, 53, 6, 111, 187, 139, 140, 43, 71, 87, 47, 48, 62, 63, 28, 68, 38, 39] (E := [(187, [d4n_0, d4of, .int .i64 0], (.tup [d4ka0_0, d4ka0_1]))]) (.cons d4ka0_ex ExOk.nil) rfl (by kernel_rfl)
def d4hl_0 : V := (.int .i64 20)
theorem d4hl_ex : PFun Tryz.prog 74 [d4n_0, .int .i64 20] d4hl_0 := ex_of mixO [69, 67, 161, 195, 74, 37, 53, 6, 111, 187, 139, 140, 43, 71, 87, 47, 48, 62, 63, 28, 68, 38, 39] (E := [(87, [d4n_0], d4vi_0)]) (.cons d4vi_ex ExOk.nil) rfl (by kernel_rfl)
def d4nw_0 : V := (.rp (.agg [.nils, (.int .i64 8), (.int .i64 20), .nils, .nils, (.int .i64 0), (.sl 3 [(.agg [(.int .i64 0), (.int .i64 0), (.int .i64 0)])])]))
def d4nw_1 : V := (.int .i64 0)
theorem d4nw_ex : PFun Tryz.prog 53 [d4n_0, .int .i64 8, .int .i64 20] (.tup [d4nw_0, d4nw_1]) := ex_of mixO [69, 67, 161, 195, 74, 37, 53, 6, 111, 187, 139, 140, 43, 71, 87, 47, 48, 62, 63, 28, 68, 38, 39] (E := [(71, [d4n_0], d4vc_0), (72, [d4n_0], (.tup [d4vn_0, d4vn_1])), (77, [d4n_0, .int .i64 8], (.tup [d4fl_0, d4fl_1])), (111, [d4n_0, d4of], d4kc_0), (139, [d4n_0, d4of, .int .i64 0], (.tup [d4fa0_0, d4fa0_1])), (140, [d4n_0, d4of, .int .i64 0], (.tup [d4ra0_0, d4ra0_1])), (74, [d4n_0, .int .i64 20], d4hl_0)]) (.cons d4vc_ex (.cons d4vn_ex (.cons d4fl_ex (.cons d4kc_ex (.cons d4fa0_ex (.cons d4ra0_ex (.cons d4hl_ex ExOk.nil))))))) rfl (by kernel_rfl)
def d4p0_0 : V := (.agg [(.int .i64 0), (.int .i64 2), .nils, .nils, .nils])
def d4p0_1 : V := (.agg [(.int .i64 0), (.int .i64 0), (.bool .false), .nils])
def d4p0_2 : V := (.int .i64 0)
theorem d4p0_ex : PFun Tryz.prog 6 [d4nw_0, b26] (.tup [d4p0_0, d4p0_1, d4p0_2]) := ex_of mixO [69, 67, 161, 195, 74, 37, 53, 6, 111, 187, 139, 140, 43, 71, 87, 47, 48, 62, 63, 28, 68, 38, 39] (E := [(87, [d4n_0], d4vi_0)]) (.cons d4vi_ex ExOk.nil) rfl (by kernel_rfl)
def d4of2_0 : V := (.sl 5 [(.agg [(.int .i64 1), (.int .i64 3), .nils, .nils, .nils])])
def d4of2_1 : V := (.int .i64 0)
theorem d4of2_ex : PFun Tryz.prog 38 [d4n_0, .int .i64 8, .int .i64 20] (.tup [d4of2_0, d4of2_1]) := ex_of mixO [69, 67, 161, 195, 74, 37, 53, 6, 111, 187, 139, 140, 43, 71, 87, 47, 48, 62, 63, 28, 68, 38, 39] (E := [(53, [d4n_0, .int .i64 8, .int .i64 20], (.tup [d4nw_0, d4nw_1])), (6, [d4nw_0, b26], (.tup [d4p0_0, d4p0_1, d4p0_2]))]) (.cons d4nw_ex (.cons d4p0_ex ExOk.nil)) rfl (by kernel_rfl)
def d4is_0 : V := (.bool .true)
theorem d4is_ex : PFun Tryz.prog 39 [d4s, .str [51], .str [48]] d4is_0 := ex_of mixO [69, 67, 161, 195, 74, 37, 53, 6, 111, 187, 139, 140, 43, 71, 87, 47, 48, 62, 63, 28, 68, 38, 39] (E := [(37, [d4s], (.tup [d4n_0, d4n_1, d4n_2])), (38, [d4n_0, .int .i64 8, .int .i64 20], (.tup [d4of2_0, d4of2_1]))]) (.cons d4n_ex (.cons d4of2_ex ExOk.nil)) rfl (by kernel_rfl)
end Go.Vc
