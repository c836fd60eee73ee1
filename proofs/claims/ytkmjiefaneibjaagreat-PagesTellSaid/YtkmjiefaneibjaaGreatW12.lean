/- Part 12 of the library of this proof. -/
import Derived.Test.YtkmjiefaneibjaaGreatW11
import Derived.Test.YtkmjiefaneibjaaGreatProg
import Derived.KernelRfl
set_option linter.all false
namespace Go.Vc
open Go.Proofs
set_option maxRecDepth 1000000
def aw26_0 : V := (.bool .true)
theorem aw26_ex : PFun Tryz.prog 13 [] aw26_0 := ex_of mixO [69, 67, 161, 195, 74, 37, 53, 6, 111, 187, 139, 140, 43, 71, 87, 47, 48, 62, 63, 28, 68, 38, 39] (E := [(37, [d0s], (.tup [d0n_0, d0n_1, d0n_2])), (38, [d0n_0, .int .i64 8, .int .i64 20], (.tup [d0of2_0, d0of2_1])), (39, [d0s, .str [49, 49, 49], .str [49, 49, 49]], d0is_0), (39, [d1s, .str [49, 49], .str [49, 49]], d1is_0), (39, [d2s, .str [49, 51, 49], .str [49, 48, 49]], d2is_0), (39, [d3s, .str [51, 49], .str [48, 49]], d3is_0), (39, [d4s, .str [51], .str [48]], d4is_0)]) (.cons d0n_ex (.cons d0of2_ex (.cons d0is_ex (.cons d1is_ex (.cons d2is_ex (.cons d3is_ex (.cons d4is_ex ExOk.nil))))))) rfl (by kernel_rfl)
end Go.Vc
