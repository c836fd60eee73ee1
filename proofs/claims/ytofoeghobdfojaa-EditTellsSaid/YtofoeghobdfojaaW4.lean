/- Part 4 of the library of this proof. -/
import Derived.Test.YtofoeghobdfojaaW3
import Derived.Test.YtofoeghobdfojaaProg
import Derived.KernelRfl
set_option linter.all false
namespace Go.Vc
open Go.Proofs
def c9 : VFn := ⟨50, (.seq (.reg .false [⟨(.some 0), (.mov (.c (.bool .false))), .none⟩]) (.seq (.reg .false [⟨(.some 8), (.call (.c (.fn 30 [])) [(.c (.str [91, 109, 53, 32, 40, 49, 48, 32, 50, 32, 51, 48, 32, 52, 48, 41, 93]))]), .none⟩, ⟨(.some 7), (.mov (.t 8)), .none⟩, ⟨(.some 9), (.ext 0 (.t 7)), .none⟩, ⟨(.some 10), (.ext 1 (.t 7)), .none⟩, ⟨(.some 11), (.ext 2 (.t 7)), .none⟩, ⟨(.some 1), (.mov (.t 9)), .none⟩, ⟨(.some 2), (.mov (.t 10)), .none⟩, ⟨(.some 3), (.mov (.t 11)), .none⟩]) (.seq (.reg .false [⟨(.some 12), (.build [(.int .i64 0), (.int .i64 0), (.int .i64 0), (.int .i64 0), (.int .i64 0), (.int .i64 0), (.int .i64 0), (.int .i64 0), (.int .i64 0), (.int .i64 0), (.int .i64 0), (.int .i64 0), (.int .i64 0), (.int .i64 0), (.int .i64 0), (.int .i64 0), .nils, (.int .i64 0), (.int .i64 0), (.int .i64 0)] [(0, (1, (.c (.int .i64 2)))), (1, (1, (.c (.int .i64 1)))), (14, (1, (.c (.int .i64 1))))]), .none⟩, ⟨(.some 13), (.bslice 28 20 [(.t 12)]), .none⟩, ⟨(.some 4), (.mov (.t 13)), .none⟩]) (.seq (.reg .false [⟨(.some 15), (.mov (.t 4)), .none⟩, ⟨(.some 16), (.call (.c (.fn 11 [])) [(.t 15)]), .none⟩, ⟨(.some 14), (.mov (.t 16)), .none⟩, ⟨(.some 17), (.ext 0 (.t 14)), .none⟩, ⟨(.some 18), (.ext 1 (.t 14)), .none⟩, ⟨(.some 5), (.alloc 31 4 (.agg [(.int .i64 0), (.int .i64 0), (.int .i64 0), (.int .i64 0)])), .none⟩, ⟨.none, (.store 4 (.t 5) (.t 17)), .none⟩, ⟨(.some 6), (.mov (.t 18)), .none⟩]) (.seq (.reg .false [⟨(.some 19), (.mov (.t 1)), .none⟩, ⟨(.some 20), (.build [(.int .i64 0), (.int .i64 0), (.int .i64 0), (.int .i64 0)] [(0, (1, (.c (.int .i64 1)))), (1, (1, (.c (.int .i64 2)))), (2, (1, (.c (.int .i64 2)))), (3, (1, (.c (.int .i64 25))))]), .none⟩, ⟨(.some 21), (.call (.c (.fn 31 [])) [(.t 19), (.t 20)]), .none⟩, ⟨(.some 22), (.mov (.t 21)), .none⟩, ⟨(.some 23), (.build [(.int .i64 0), (.int .i64 0), (.int .i64 0), (.int .i64 0)] []), (.some ((.t 22), .true))⟩, ⟨(.some 24), (.call (.c (.fn 31 [])) [(.c .nils), (.t 23)]), (.some ((.t 22), .true))⟩, ⟨(.some 25), (.pick (.t 22) (.t 24) (.c (.bool .false))), .none⟩, ⟨(.some 26), (.mov (.t 25)), .none⟩, ⟨(.some 27), (.mov (.t 6)), (.some ((.t 26), .true))⟩, ⟨(.some 28), (.bin .eql (.t 27) (.c (.int .i64 4))), (.some ((.t 26), .true))⟩, ⟨(.some 29), (.pick (.t 26) (.t 28) (.c (.bool .false))), .none⟩, ⟨(.some 30), (.mov (.t 29)), .none⟩, ⟨(.some 31), (.mov (.t 4)), (.some ((.t 30), .true))⟩, ⟨(.some 32), (.call (.c (.fn 13 [])) [(.t 31)]), (.some ((.t 30), .true))⟩, ⟨(.some 33), (.not (.t 32)), (.some ((.t 30), .true))⟩, ⟨(.some 34), (.pick (.t 30) (.t 33) (.c (.bool .false))), .none⟩, ⟨(.some 35), (.mov (.t 34)), .none⟩, ⟨(.some 36), (.mov (.t 4)), (.some ((.t 35), .true))⟩, ⟨(.some 37), (.call (.c (.fn 15 [])) [(.t 36)]), (.some ((.t 35), .true))⟩, ⟨(.some 38), (.bin .eql (.t 37) (.c (.int .i64 4))), (.some ((.t 35), .true))⟩, ⟨(.some 39), (.pick (.t 35) (.t 38) (.c (.bool .false))), .none⟩, ⟨(.some 40), (.mov (.t 39)), .none⟩, ⟨(.some 41), (.call (.c (.fn 32 [])) [(.c (.int .i64 17))]), (.some ((.t 40), .true))⟩, ⟨(.some 42), (.call (.c (.fn 15 [])) [(.t 41)]), (.some ((.t 40), .true))⟩, ⟨(.some 43), (.bin .eql (.t 42) (.c (.int .i64 2))), (.some ((.t 40), .true))⟩, ⟨(.some 44), (.pick (.t 40) (.t 43) (.c (.bool .false))), .none⟩, ⟨(.some 45), (.mov (.t 44)), .none⟩, ⟨(.some 46), (.call (.c (.fn 32 [])) [(.c (.int .i64 16))]), (.some ((.t 45), .true))⟩, ⟨(.some 47), (.call (.c (.fn 15 [])) [(.t 46)]), (.some ((.t 45), .true))⟩, ⟨(.some 48), (.bin .eql (.t 47) (.c (.int .i64 0))), (.some ((.t 45), .true))⟩, ⟨(.some 49), (.pick (.t 45) (.t 48) (.c (.bool .false))), .none⟩, ⟨(.some 0), (.mov (.t 49)), .none⟩]) .ret))))), [(.tmp (.t 0))]⟩
theorem e9 : cfn Try.prog Try.f9 = some c9 := by kernel_rfl
theorem k9 : callable Try.prog 9 = true := by kernel_rfl
def c30 : VFn := ⟨39, (.seq (.reg .false [⟨(.some 2), (.mov (.c .nils)), .none⟩, ⟨(.some 3), (.mov (.c (.int .i64 0))), .none⟩, ⟨(.some 4), (.mov (.c (.int .i64 0))), .none⟩]) (.seq (.reg .false [⟨(.some 10), (.mov (.t 0)), .none⟩, ⟨(.some 11), (.call (.c (.fn 59 [])) [(.t 10)]), .none⟩, ⟨(.some 9), (.mov (.t 11)), .none⟩, ⟨(.some 12), (.ext 0 (.t 9)), .none⟩, ⟨(.some 13), (.ext 1 (.t 9)), .none⟩, ⟨(.some 14), (.ext 2 (.t 9)), .none⟩, ⟨(.some 5), (.mov (.t 12)), .none⟩, ⟨(.some 6), (.mov (.t 13)), .none⟩, ⟨(.some 7), (.mov (.t 14)), .none⟩]) (.seq (.seq (.reg .false [⟨(.some 15), (.mov (.t 7)), .none⟩, ⟨(.some 16), (.bin .neq (.t 15) (.c (.int .i64 0))), .none⟩]) (.cond (.t 16) (.seq (.reg .false [⟨(.some 17), (.mov (.t 6)), .none⟩, ⟨(.some 18), (.mov (.t 7)), .none⟩, ⟨(.some 2), (.mov (.c .nils)), .none⟩, ⟨(.some 3), (.mov (.t 17)), .none⟩, ⟨(.some 4), (.mov (.t 18)), .none⟩]) .ret) .skip)) (.seq (.reg .false [⟨(.some 19), (.mov (.t 5)), .none⟩, ⟨(.some 20), (.call (.c (.fn 60 [])) [(.t 19), (.c (.int .i64 0))]), .none⟩, ⟨(.some 8), (.alloc 94 3 (.agg [.nils, (.int .i64 0), (.int .i64 0)])), .none⟩, ⟨.none, (.store 3 (.t 8) (.t 20)), .none⟩]) (.seq (.seq (.reg .false [⟨(.some 21), (.fldA .false 1 1 (.t 8)), .none⟩, ⟨(.some 22), (.load .false 1 (.t 21)), .none⟩, ⟨(.some 23), (.mov (.t 5)), .none⟩, ⟨(.some 24), (.len .false (.t 23)), .none⟩, ⟨(.some 25), (.bin .lss (.t 22) (.t 24)), .none⟩]) (.cond (.t 25) (.seq (.reg .true [⟨(.some 26), (.mov (.t 5)), .none⟩, ⟨(.some 27), (.fldA .false 1 1 (.t 8)), .none⟩, ⟨(.some 28), (.load .false 1 (.t 27)), .none⟩, ⟨(.some 29), (.idxA 4 (.t 26) (.t 28)), .none⟩, ⟨(.some 30), (.fldA .false 3 1 (.t 29)), .none⟩, ⟨(.some 31), (.load .false 1 (.t 30)), .none⟩, ⟨(.some 2), (.mov (.c .nils)), .none⟩, ⟨(.some 3), (.mov (.t 31)), .none⟩, ⟨(.some 4), (.mov (.c (.int .i64 1))), .none⟩]) .ret) .skip)) (.seq (.seq (.reg .false [⟨(.some 32), (.fldA .false 2 1 (.t 8)), .none⟩, ⟨(.some 33), (.load .false 1 (.t 32)), .none⟩, ⟨(.some 34), (.bin .eql (.t 33) (.c (.int .i64 1))), .none⟩]) (.cond (.t 34) (.seq (.reg .false [⟨(.some 35), (.mov (.t 0)), .none⟩, ⟨(.some 36), (.len .true (.t 35)), .none⟩, ⟨(.some 2), (.mov (.c .nils)), .none⟩, ⟨(.some 3), (.mov (.t 36)), .none⟩, ⟨(.some 4), (.mov (.c (.int .i64 1))), .none⟩]) .ret) .skip)) (.seq (.reg .false [⟨(.some 37), (.fldA .false 0 1 (.t 8)), .none⟩, ⟨(.some 38), (.load .false 1 (.t 37)), .none⟩, ⟨(.some 2), (.mov (.t 38)), .none⟩, ⟨(.some 3), (.mov (.c (.int .i64 0))), .none⟩, ⟨(.some 4), (.mov (.c (.int .i64 0))), .none⟩]) .ret))))))), [(.tmp (.t 2)), (.tmp (.t 3)), (.tmp (.t 4))]⟩
theorem e30 : cfn Try.prog Try.f30 = some c30 := by kernel_rfl
theorem k30 : callable Try.prog 30 = true := by kernel_rfl
def c31 : VFn := ⟨28, (.seq (.reg .false [⟨(.some 3), (.box 31 4 (.t 1)), .none⟩, ⟨(.some 4), (.mov (.c (.bool .false))), .none⟩]) (.seq (.reg .false [⟨(.some 8), (.mov (.t 0)), .none⟩, ⟨(.some 9), (.call (.c (.fn 11 [])) [(.t 8)]), .none⟩, ⟨(.some 7), (.mov (.t 9)), .none⟩, ⟨(.some 10), (.ext 0 (.t 7)), .none⟩, ⟨(.some 11), (.ext 1 (.t 7)), .none⟩, ⟨(.some 5), (.alloc 31 4 (.agg [(.int .i64 0), (.int .i64 0), (.int .i64 0), (.int .i64 0)])), .none⟩, ⟨.none, (.store 4 (.t 5) (.t 10)), .none⟩, ⟨(.some 6), (.mov (.t 11)), .none⟩]) (.seq (.reg .false [⟨(.some 12), (.load .true 4 (.t 5)), .none⟩, ⟨(.some 13), (.load .true 4 (.t 3)), .none⟩, ⟨(.some 14), (.eqS .false [0, 0, 0, 0] (.t 12) (.t 13)), .none⟩, ⟨(.some 15), (.mov (.t 14)), .none⟩, ⟨(.some 16), (.mov (.t 6)), (.some ((.t 15), .true))⟩, ⟨(.some 17), (.bin .eql (.t 16) (.c (.int .i64 0))), (.some ((.t 15), .true))⟩, ⟨(.some 18), (.pick (.t 15) (.t 17) (.c (.bool .false))), .none⟩, ⟨(.some 19), (.mov (.t 18)), .none⟩, ⟨(.some 20), (.mov (.t 0)), (.some ((.t 19), .true))⟩, ⟨(.some 21), (.call (.c (.fn 13 [])) [(.t 20)]), (.some ((.t 19), .true))⟩, ⟨(.some 22), (.pick (.t 19) (.t 21) (.c (.bool .false))), .none⟩, ⟨(.some 23), (.mov (.t 22)), .none⟩, ⟨(.some 24), (.mov (.t 0)), (.some ((.t 23), .true))⟩, ⟨(.some 25), (.call (.c (.fn 15 [])) [(.t 24)]), (.some ((.t 23), .true))⟩, ⟨(.some 26), (.bin .eql (.t 25) (.c (.int .i64 0))), (.some ((.t 23), .true))⟩, ⟨(.some 27), (.pick (.t 23) (.t 26) (.c (.bool .false))), .none⟩, ⟨(.some 4), (.mov (.t 27)), .none⟩]) .ret))), [(.tmp (.t 4))]⟩
theorem e31 : cfn Try.prog Try.f31 = some c31 := by kernel_rfl
theorem k31 : callable Try.prog 31 = true := by kernel_rfl
def c32 : VFn := ⟨19, (.seq (.reg .false [⟨(.some 2), (.mov (.c .nils)), .none⟩]) (.seq (.reg .false [⟨(.some 3), (.mov (.c .nils)), .none⟩]) (.seq (.seq (.reg .false [⟨(.some 4), (.mov (.c (.int .i64 0))), .none⟩]) (.block 0 (.loop (.seq (.seq (.reg .false [⟨(.some 5), (.mov (.t 4)), .none⟩, ⟨(.some 6), (.mov (.t 0)), .none⟩, ⟨(.some 7), (.bin .lss (.t 5) (.t 6)), .none⟩]) (.cond (.t 7) .skip (.exit 0))) (.seq (.block 1 (.reg .false [⟨(.some 10), (.mov (.t 3)), .none⟩, ⟨(.some 11), (.mov (.t 0)), .none⟩, ⟨(.some 12), (.mov (.t 4)), .none⟩, ⟨(.some 13), (.bin .sub (.t 11) (.t 12)), .none⟩, ⟨(.some 14), (.call (.c (.fn 43 [])) []), .none⟩, ⟨(.some 15), (.build [(.int .i64 0), (.int .i64 0), (.int .i64 0), (.int .i64 0), (.int .i64 0), (.int .i64 0), (.int .i64 0), (.int .i64 0), (.int .i64 0), (.int .i64 0), (.int .i64 0), (.int .i64 0), (.int .i64 0), (.int .i64 0), (.int .i64 0), (.int .i64 0), .nils, (.int .i64 0), (.int .i64 0), (.int .i64 0)] [(0, (1, (.c (.int .i64 1)))), (1, (1, (.t 13))), (2, (12, (.t 14)))]), .none⟩, ⟨(.some 16), (.bslice 28 20 [(.t 15)]), .none⟩, ⟨(.some 17), (.append 28 20 176 (.t 10) (.t 16)), .none⟩, ⟨(.some 3), (.mov (.t 17)), .none⟩])) (.reg .false [⟨(.some 8), (.mov (.t 4)), .none⟩, ⟨(.some 9), (.bin .add (.t 8) (.c (.int .i64 1))), .none⟩, ⟨(.some 4), (.mov (.t 9)), .none⟩])))))) (.seq (.reg .false [⟨(.some 18), (.mov (.t 3)), .none⟩, ⟨(.some 2), (.mov (.t 18)), .none⟩]) .ret)))), [(.tmp (.t 2))]⟩
theorem e32 : cfn Try.prog Try.f32 = some c32 := by kernel_rfl
theorem k32 : callable Try.prog 32 = true := by kernel_rfl
def c43 : VFn := ⟨2, (.seq (.reg .false [⟨(.some 0), (.alloc 25 12 (.agg [(.int .i64 0), (.int .i64 0), (.int .i64 0), (.int .i64 0), (.int .i64 0), (.int .i64 0), (.int .i64 0), (.int .i64 0), (.int .i64 0), (.int .i64 0), (.int .i64 0), (.int .i64 0)])), .none⟩]) (.seq (.reg .false [⟨(.some 1), (.build [(.int .i64 0), (.int .i64 0), (.int .i64 0), (.int .i64 0), (.int .i64 0), (.int .i64 0), (.int .i64 0), (.int .i64 0), (.int .i64 0), (.int .i64 0), (.int .i64 0), (.int .i64 0)] [(5, (1, (.c (.int .i64 2)))), (6, (1, (.c (.int .i64 2))))]), .none⟩, ⟨.none, (.store 12 (.t 0) (.t 1)), .none⟩]) .ret)), [(.cell .true 12 (.t 0))]⟩
theorem e43 : cfn Try.prog Try.f43 = some c43 := by kernel_rfl
theorem k43 : callable Try.prog 43 = true := by kernel_rfl
def c59 : VFn := ⟨102, (.seq (.reg .false [⟨(.some 2), (.mov (.c .nils)), .none⟩, ⟨(.some 3), (.mov (.c (.int .i64 0))), .none⟩, ⟨(.some 4), (.mov (.c (.int .i64 0))), .none⟩]) (.seq (.reg .false [⟨(.some 5), (.mov (.c .nils)), .none⟩]) (.seq (.reg .false [⟨(.some 6), (.mov (.c (.int .i64 0))), .none⟩]) (.seq (.seq (.reg .false [⟨(.some 7), (.mov (.c (.int .i64 0))), .none⟩]) (.block 0 (.loop (.seq (.seq (.reg .false [⟨(.some 12), (.mov (.t 7)), .none⟩, ⟨(.some 13), (.mov (.t 0)), .none⟩, ⟨(.some 14), (.len .true (.t 13)), .none⟩, ⟨(.some 15), (.bin .lss (.t 12) (.t 14)), .none⟩]) (.cond (.t 15) .skip (.exit 0))) (.block 1 (.seq (.reg .false [⟨(.some 16), (.mov (.t 0)), .none⟩, ⟨(.some 17), (.mov (.t 7)), .none⟩, ⟨(.some 18), (.call (.c (.fn 83 [])) [(.t 16), (.t 17)]), .none⟩, ⟨(.some 8), (.mov (.t 18)), .none⟩]) (.seq (.seq (.reg .false [⟨(.some 19), (.mov (.t 8)), .none⟩, ⟨(.some 20), (.bin .eql (.t 19) (.c (.int .i64 0))), .none⟩]) (.cond (.t 20) (.seq (.reg .false [⟨(.some 21), (.mov (.t 7)), .none⟩, ⟨(.some 2), (.mov (.c .nils)), .none⟩, ⟨(.some 3), (.mov (.t 21)), .none⟩, ⟨(.some 4), (.mov (.c (.int .i64 1))), .none⟩]) .ret) .skip)) (.seq (.reg .false [⟨(.some 22), (.mov (.t 0)), .none⟩, ⟨(.some 23), (.mov (.t 7)), .none⟩, ⟨(.some 24), (.idxS (.t 22) (.t 23)), .none⟩, ⟨(.some 9), (.mov (.t 24)), .none⟩]) (.seq (.seq (.reg .false [⟨(.some 25), (.mov (.t 6)), .none⟩, ⟨(.some 26), (.bin .eql (.t 25) (.c (.int .i64 1))), .none⟩]) (.cond (.t 26) (.seq (.seq (.reg .false [⟨(.some 27), (.mov (.t 9)), .none⟩, ⟨(.some 28), (.bin .eql (.t 27) (.c (.int .u8 10))), .none⟩]) (.cond (.t 28) (.reg .false [⟨(.some 6), (.mov (.c (.int .i64 0))), .none⟩]) .skip)) (.seq (.reg .false [⟨(.some 29), (.mov (.t 7)), .none⟩, ⟨(.some 30), (.mov (.t 8)), .none⟩, ⟨(.some 31), (.bin .add (.t 29) (.t 30)), .none⟩, ⟨(.some 7), (.mov (.t 31)), .none⟩]) (.exit 1))) .skip)) (.seq (.seq (.reg .false [⟨(.some 32), (.mov (.t 9)), .none⟩, ⟨(.some 33), (.bin .eql (.t 32) (.c (.int .u8 35))), .none⟩]) (.cond (.t 33) (.reg .false [⟨(.some 6), (.mov (.c (.int .i64 1))), .none⟩]) .skip)) (.seq (.seq (.reg .false [⟨(.some 34), (.mov (.t 9)), .none⟩, ⟨(.some 35), (.bin .eql (.t 34) (.c (.int .u8 35))), .none⟩, ⟨(.some 36), (.mov (.t 35)), .none⟩, ⟨(.some 37), (.mov (.t 9)), (.some ((.t 36), .false))⟩, ⟨(.some 38), (.bin .eql (.t 37) (.c (.int .u8 32))), (.some ((.t 36), .false))⟩, ⟨(.some 39), (.pick (.t 36) (.c (.bool .true)) (.t 38)), .none⟩, ⟨(.some 40), (.mov (.t 39)), .none⟩, ⟨(.some 41), (.mov (.t 9)), (.some ((.t 40), .false))⟩, ⟨(.some 42), (.bin .eql (.t 41) (.c (.int .u8 9))), (.some ((.t 40), .false))⟩, ⟨(.some 43), (.pick (.t 40) (.c (.bool .true)) (.t 42)), .none⟩, ⟨(.some 44), (.mov (.t 43)), .none⟩, ⟨(.some 45), (.mov (.t 9)), (.some ((.t 44), .false))⟩, ⟨(.some 46), (.bin .eql (.t 45) (.c (.int .u8 10))), (.some ((.t 44), .false))⟩, ⟨(.some 47), (.pick (.t 44) (.c (.bool .true)) (.t 46)), .none⟩]) (.cond (.t 47) (.seq (.reg .false [⟨(.some 48), (.mov (.t 7)), .none⟩, ⟨(.some 49), (.bin .add (.t 48) (.c (.int .i64 1))), .none⟩, ⟨(.some 7), (.mov (.t 49)), .none⟩]) (.exit 1)) .skip)) (.seq (.seq (.reg .false [⟨(.some 50), (.mov (.t 0)), .none⟩, ⟨(.some 51), (.mov (.t 7)), .none⟩, ⟨(.some 52), (.call (.c (.fn 84 [])) [(.t 50), (.t 51), (.c (.int .u8 48)), (.c (.int .u8 57))]), .none⟩, ⟨(.some 53), (.not (.t 52)), .none⟩]) (.cond (.t 53) (.seq (.reg .false [⟨(.some 54), (.mov (.t 5)), .none⟩, ⟨(.some 55), (.mov (.t 0)), .none⟩, ⟨(.some 56), (.mov (.t 7)), .none⟩, ⟨(.some 57), (.mov (.t 8)), .none⟩, ⟨(.some 58), (.call (.c (.fn 85 [])) [(.t 55), (.t 56), (.t 57)]), .none⟩, ⟨(.some 59), (.mov (.t 7)), .none⟩, ⟨(.some 60), (.build [(.int .i64 0), (.int .i32 0), (.int .i64 0), (.int .i64 0)] [(0, (1, (.c (.int .i64 1)))), (1, (1, (.t 58))), (3, (1, (.t 59)))]), .none⟩, ⟨(.some 61), (.bslice 97 4 [(.t 60)]), .none⟩, ⟨(.some 62), (.append 97 4 32 (.t 54) (.t 61)), .none⟩, ⟨(.some 5), (.mov (.t 62)), .none⟩]) (.seq (.reg .false [⟨(.some 63), (.mov (.t 7)), .none⟩, ⟨(.some 64), (.mov (.t 8)), .none⟩, ⟨(.some 65), (.bin .add (.t 63) (.t 64)), .none⟩, ⟨(.some 7), (.mov (.t 65)), .none⟩]) (.exit 1))) .skip)) (.seq (.reg .false [⟨(.some 66), (.mov (.t 7)), .none⟩, ⟨(.some 10), (.mov (.c (.int .i64 0))), .none⟩, ⟨(.some 11), (.mov (.t 66)), .none⟩]) (.seq (.block 2 (.loop (.seq (.seq (.reg .false [⟨(.some 67), (.mov (.t 0)), .none⟩, ⟨(.some 68), (.mov (.t 11)), .none⟩, ⟨(.some 69), (.call (.c (.fn 84 [])) [(.t 67), (.t 68), (.c (.int .u8 48)), (.c (.int .u8 57))]), .none⟩]) (.cond (.t 69) .skip (.exit 2))) (.block 3 (.seq (.reg .false [⟨(.some 70), (.mov (.t 10)), .none⟩, ⟨(.some 71), (.bin .mul (.c (.int .i64 10)) (.t 70)), .none⟩, ⟨(.some 72), (.mov (.t 0)), .none⟩, ⟨(.some 73), (.mov (.t 11)), .none⟩, ⟨(.some 74), (.idxS (.t 72) (.t 73)), .none⟩, ⟨(.some 75), (.bin .sub (.t 74) (.c (.int .u8 48))), .none⟩, ⟨(.some 76), (.convI .i64 (.t 75)), .none⟩, ⟨(.some 77), (.bin .add (.t 71) (.t 76)), .none⟩, ⟨(.some 78), (.minmax .false (.t 77) (.c (.int .i64 2199023255552))), .none⟩, ⟨(.some 10), (.mov (.t 78)), .none⟩]) (.reg .false [⟨(.some 79), (.mov (.t 11)), .none⟩, ⟨(.some 80), (.bin .add (.t 79) (.c (.int .i64 1))), .none⟩, ⟨(.some 11), (.mov (.t 80)), .none⟩])))))) (.seq (.seq (.reg .false [⟨(.some 81), (.mov (.t 10)), .none⟩, ⟨(.some 82), (.bin .gtr (.t 81) (.c (.int .i64 1099511627776))), .none⟩, ⟨(.some 83), (.mov (.t 82)), .none⟩, ⟨(.some 84), (.mov (.t 9)), (.some ((.t 83), .false))⟩, ⟨(.some 85), (.bin .eql (.t 84) (.c (.int .u8 48))), (.some ((.t 83), .false))⟩, ⟨(.some 86), (.mov (.t 85)), (.some ((.t 83), .false))⟩, ⟨(.some 87), (.mov (.t 11)), (.some ((.t 86), .true))⟩, ⟨(.some 88), (.mov (.t 7)), (.some ((.t 86), .true))⟩, ⟨(.some 89), (.bin .add (.t 88) (.c (.int .i64 1))), (.some ((.t 86), .true))⟩, ⟨(.some 90), (.bin .gtr (.t 87) (.t 89)), (.some ((.t 86), .true))⟩, ⟨(.some 91), (.pick (.t 86) (.t 90) (.c (.bool .false))), (.some ((.t 83), .false))⟩, ⟨(.some 92), (.pick (.t 83) (.c (.bool .true)) (.t 91)), .none⟩]) (.cond (.t 92) (.seq (.reg .false [⟨(.some 93), (.mov (.t 7)), .none⟩, ⟨(.some 2), (.mov (.c .nils)), .none⟩, ⟨(.some 3), (.mov (.t 93)), .none⟩, ⟨(.some 4), (.mov (.c (.int .i64 1))), .none⟩]) .ret) .skip)) (.seq (.reg .false [⟨(.some 94), (.mov (.t 5)), .none⟩, ⟨(.some 95), (.mov (.t 10)), .none⟩, ⟨(.some 96), (.mov (.t 7)), .none⟩, ⟨(.some 97), (.build [(.int .i64 0), (.int .i32 0), (.int .i64 0), (.int .i64 0)] [(0, (1, (.c (.int .i64 2)))), (2, (1, (.t 95))), (3, (1, (.t 96)))]), .none⟩, ⟨(.some 98), (.bslice 97 4 [(.t 97)]), .none⟩, ⟨(.some 99), (.append 97 4 32 (.t 94) (.t 98)), .none⟩, ⟨(.some 5), (.mov (.t 99)), .none⟩]) (.reg .false [⟨(.some 100), (.mov (.t 11)), .none⟩, ⟨(.some 7), (.mov (.t 100)), .none⟩]))))))))))))))))) (.seq (.reg .false [⟨(.some 101), (.mov (.t 5)), .none⟩, ⟨(.some 2), (.mov (.t 101)), .none⟩, ⟨(.some 3), (.mov (.c (.int .i64 0))), .none⟩, ⟨(.some 4), (.mov (.c (.int .i64 0))), .none⟩]) .ret))))), [(.tmp (.t 2)), (.tmp (.t 3)), (.tmp (.t 4))]⟩
theorem e59 : cfn Try.prog Try.f59 = some c59 := by kernel_rfl
theorem k59 : callable Try.prog 59 = true := by kernel_rfl
def c60 : VFn := ⟨49, (.seq (.reg .false [⟨(.some 4), (.alloc 94 3 (.agg [.nils, (.int .i64 0), (.int .i64 0)])), .none⟩]) (.seq (.reg .false [⟨(.some 7), (.mov (.t 1)), .none⟩, ⟨(.some 8), (.build [.nils, (.int .i64 0), (.int .i64 0)] [(0, (1, (.c .nils))), (1, (1, (.t 7))), (2, (1, (.c (.int .i64 0))))]), .none⟩, ⟨(.some 5), (.alloc 94 3 (.agg [.nils, (.int .i64 0), (.int .i64 0)])), .none⟩, ⟨.none, (.store 3 (.t 5) (.t 8)), .none⟩]) (.seq (.block 0 (.loop (.seq (.seq (.reg .false [⟨(.some 9), (.mov (.t 0)), .none⟩, ⟨(.some 10), (.fldA .false 1 1 (.t 5)), .none⟩, ⟨(.some 11), (.load .false 1 (.t 10)), .none⟩, ⟨(.some 12), (.call (.c (.fn 86 [])) [(.t 9), (.t 11), (.c (.int .i32 91))]), .none⟩, ⟨(.some 13), (.mov (.t 12)), .none⟩, ⟨(.some 14), (.mov (.t 0)), (.some ((.t 13), .false))⟩, ⟨(.some 15), (.fldA .false 1 1 (.t 5)), (.some ((.t 13), .false))⟩, ⟨(.some 16), (.load .false 1 (.t 15)), (.some ((.t 13), .false))⟩, ⟨(.some 17), (.call (.c (.fn 86 [])) [(.t 14), (.t 16), (.c (.int .i32 40))]), (.some ((.t 13), .false))⟩, ⟨(.some 18), (.pick (.t 13) (.c (.bool .true)) (.t 17)), .none⟩, ⟨(.some 19), (.mov (.t 18)), .none⟩, ⟨(.some 20), (.mov (.t 0)), (.some ((.t 19), .false))⟩, ⟨(.some 21), (.fldA .false 1 1 (.t 5)), (.some ((.t 19), .false))⟩, ⟨(.some 22), (.load .false 1 (.t 21)), (.some ((.t 19), .false))⟩, ⟨(.some 23), (.call (.c (.fn 86 [])) [(.t 20), (.t 22), (.c (.int .i32 123))]), (.some ((.t 19), .false))⟩, ⟨(.some 24), (.pick (.t 19) (.c (.bool .true)) (.t 23)), .none⟩, ⟨(.some 25), (.mov (.t 24)), .none⟩, ⟨(.some 26), (.mov (.t 0)), (.some ((.t 25), .false))⟩, ⟨(.some 27), (.fldA .false 1 1 (.t 5)), (.some ((.t 25), .false))⟩, ⟨(.some 28), (.load .false 1 (.t 27)), (.some ((.t 25), .false))⟩, ⟨(.some 29), (.call (.c (.fn 86 [])) [(.t 26), (.t 28), (.c (.int .i32 60))]), (.some ((.t 25), .false))⟩, ⟨(.some 30), (.pick (.t 25) (.c (.bool .true)) (.t 29)), .none⟩]) (.cond (.t 30) .skip (.exit 0))) (.block 1 (.seq (.reg .false [⟨(.some 31), (.mov (.t 0)), .none⟩, ⟨(.some 32), (.fldA .false 1 1 (.t 5)), .none⟩, ⟨(.some 33), (.load .false 1 (.t 32)), .none⟩, ⟨(.some 34), (.call (.c (.fn 87 [])) [(.t 31), (.t 33)]), .none⟩, ⟨(.some 6), (.alloc 94 3 (.agg [.nils, (.int .i64 0), (.int .i64 0)])), .none⟩, ⟨.none, (.store 3 (.t 6) (.t 34)), .none⟩]) (.seq (.seq (.reg .false [⟨(.some 35), (.fldA .false 2 1 (.t 6)), .none⟩, ⟨(.some 36), (.load .false 1 (.t 35)), .none⟩, ⟨(.some 37), (.bin .eql (.t 36) (.c (.int .i64 1))), .none⟩]) (.cond (.t 37) (.seq (.reg .false [⟨(.some 38), (.load .true 3 (.t 6)), .none⟩, ⟨.none, (.store 3 (.t 4) (.t 38)), .none⟩]) .ret) .skip)) (.seq (.reg .false [⟨(.some 39), (.fldA .false 0 1 (.t 5)), .none⟩, ⟨(.some 40), (.load .false 1 (.t 39)), .none⟩, ⟨(.some 41), (.fldA .false 0 1 (.t 6)), .none⟩, ⟨(.some 42), (.load .false 1 (.t 41)), .none⟩, ⟨(.some 43), (.append 28 20 176 (.t 40) (.t 42)), .none⟩, ⟨(.some 44), (.fldA .false 0 1 (.t 5)), .none⟩, ⟨.none, (.store 1 (.t 44) (.t 43)), .none⟩]) (.reg .false [⟨(.some 45), (.fldA .false 1 1 (.t 6)), .none⟩, ⟨(.some 46), (.load .false 1 (.t 45)), .none⟩, ⟨(.some 47), (.fldA .false 1 1 (.t 5)), .none⟩, ⟨.none, (.store 1 (.t 47) (.t 46)), .none⟩])))))))) (.seq (.reg .false [⟨(.some 48), (.load .true 3 (.t 5)), .none⟩, ⟨.none, (.store 3 (.t 4) (.t 48)), .none⟩]) .ret)))), [(.cell .true 3 (.t 4))]⟩
theorem e60 : cfn Try.prog Try.f60 = some c60 := by kernel_rfl
theorem k60 : callable Try.prog 60 = true := by kernel_rfl
def c83 : VFn := ⟨114, (.seq (.reg .false [⟨(.some 4), (.mov (.c (.int .i64 0))), .none⟩]) (.seq (.seq (.reg .false [⟨(.some 5), (.mov (.t 0)), .none⟩, ⟨(.some 6), (.mov (.t 1)), .none⟩, ⟨(.some 7), (.call (.c (.fn 84 [])) [(.t 5), (.t 6), (.c (.int .u8 0)), (.c (.int .u8 127))]), .none⟩]) (.cond (.t 7) (.seq (.reg .false [⟨(.some 4), (.mov (.c (.int .i64 1))), .none⟩]) .ret) .skip)) (.seq (.seq (.reg .false [⟨(.some 8), (.mov (.t 0)), .none⟩, ⟨(.some 9), (.mov (.t 1)), .none⟩, ⟨(.some 10), (.call (.c (.fn 84 [])) [(.t 8), (.t 9), (.c (.int .u8 194)), (.c (.int .u8 223))]), .none⟩, ⟨(.some 11), (.mov (.t 10)), .none⟩, ⟨(.some 12), (.mov (.t 0)), (.some ((.t 11), .true))⟩, ⟨(.some 13), (.mov (.t 1)), (.some ((.t 11), .true))⟩, ⟨(.some 14), (.bin .add (.t 13) (.c (.int .i64 1))), (.some ((.t 11), .true))⟩, ⟨(.some 15), (.call (.c (.fn 96 [])) [(.t 12), (.t 14), (.c (.int .i64 1))]), (.some ((.t 11), .true))⟩, ⟨(.some 16), (.pick (.t 11) (.t 15) (.c (.bool .false))), .none⟩]) (.cond (.t 16) (.seq (.reg .false [⟨(.some 4), (.mov (.c (.int .i64 2))), .none⟩]) .ret) .skip)) (.seq (.seq (.reg .false [⟨(.some 17), (.mov (.t 0)), .none⟩, ⟨(.some 18), (.mov (.t 1)), .none⟩, ⟨(.some 19), (.call (.c (.fn 84 [])) [(.t 17), (.t 18), (.c (.int .u8 224)), (.c (.int .u8 224))]), .none⟩, ⟨(.some 20), (.mov (.t 19)), .none⟩, ⟨(.some 21), (.mov (.t 0)), (.some ((.t 20), .true))⟩, ⟨(.some 22), (.mov (.t 1)), (.some ((.t 20), .true))⟩, ⟨(.some 23), (.bin .add (.t 22) (.c (.int .i64 1))), (.some ((.t 20), .true))⟩, ⟨(.some 24), (.call (.c (.fn 84 [])) [(.t 21), (.t 23), (.c (.int .u8 160)), (.c (.int .u8 191))]), (.some ((.t 20), .true))⟩, ⟨(.some 25), (.pick (.t 20) (.t 24) (.c (.bool .false))), .none⟩, ⟨(.some 26), (.mov (.t 25)), .none⟩, ⟨(.some 27), (.mov (.t 0)), (.some ((.t 26), .true))⟩, ⟨(.some 28), (.mov (.t 1)), (.some ((.t 26), .true))⟩, ⟨(.some 29), (.bin .add (.t 28) (.c (.int .i64 2))), (.some ((.t 26), .true))⟩, ⟨(.some 30), (.call (.c (.fn 96 [])) [(.t 27), (.t 29), (.c (.int .i64 1))]), (.some ((.t 26), .true))⟩, ⟨(.some 31), (.pick (.t 26) (.t 30) (.c (.bool .false))), .none⟩, ⟨(.some 32), (.mov (.t 31)), .none⟩, ⟨(.some 33), (.mov (.t 0)), (.some ((.t 32), .false))⟩, ⟨(.some 34), (.mov (.t 1)), (.some ((.t 32), .false))⟩, ⟨(.some 35), (.call (.c (.fn 84 [])) [(.t 33), (.t 34), (.c (.int .u8 225)), (.c (.int .u8 236))]), (.some ((.t 32), .false))⟩, ⟨(.some 36), (.mov (.t 35)), (.some ((.t 32), .false))⟩, ⟨(.some 37), (.mov (.t 0)), (.some ((.t 36), .true))⟩, ⟨(.some 38), (.mov (.t 1)), (.some ((.t 36), .true))⟩, ⟨(.some 39), (.bin .add (.t 38) (.c (.int .i64 1))), (.some ((.t 36), .true))⟩, ⟨(.some 40), (.call (.c (.fn 96 [])) [(.t 37), (.t 39), (.c (.int .i64 2))]), (.some ((.t 36), .true))⟩, ⟨(.some 41), (.pick (.t 36) (.t 40) (.c (.bool .false))), (.some ((.t 32), .false))⟩, ⟨(.some 42), (.pick (.t 32) (.c (.bool .true)) (.t 41)), .none⟩, ⟨(.some 43), (.mov (.t 42)), .none⟩, ⟨(.some 44), (.mov (.t 0)), (.some ((.t 43), .false))⟩, ⟨(.some 45), (.mov (.t 1)), (.some ((.t 43), .false))⟩, ⟨(.some 46), (.call (.c (.fn 84 [])) [(.t 44), (.t 45), (.c (.int .u8 237)), (.c (.int .u8 237))]), (.some ((.t 43), .false))⟩, ⟨(.some 47), (.mov (.t 46)), (.some ((.t 43), .false))⟩, ⟨(.some 48), (.mov (.t 0)), (.some ((.t 47), .true))⟩, ⟨(.some 49), (.mov (.t 1)), (.some ((.t 47), .true))⟩, ⟨(.some 50), (.bin .add (.t 49) (.c (.int .i64 1))), (.some ((.t 47), .true))⟩, ⟨(.some 51), (.call (.c (.fn 84 [])) [(.t 48), (.t 50), (.c (.int .u8 128)), (.c (.int .u8 159))]), (.some ((.t 47), .true))⟩, ⟨(.some 52), (.pick (.t 47) (.t 51) (.c (.bool .false))), (.some ((.t 43), .false))⟩, ⟨(.some 53), (.mov (.t 52)), (.some ((.t 43), .false))⟩, ⟨(.some 54), (.mov (.t 0)), (.some ((.t 53), .true))⟩, ⟨(.some 55), (.mov (.t 1)), (.some ((.t 53), .true))⟩, ⟨(.some 56), (.bin .add (.t 55) (.c (.int .i64 2))), (.some ((.t 53), .true))⟩, ⟨(.some 57), (.call (.c (.fn 96 [])) [(.t 54), (.t 56), (.c (.int .i64 1))]), (.some ((.t 53), .true))⟩, ⟨(.some 58), (.pick (.t 53) (.t 57) (.c (.bool .false))), (.some ((.t 43), .false))⟩, ⟨(.some 59), (.pick (.t 43) (.c (.bool .true)) (.t 58)), .none⟩, ⟨(.some 60), (.mov (.t 59)), .none⟩, ⟨(.some 61), (.mov (.t 0)), (.some ((.t 60), .false))⟩, ⟨(.some 62), (.mov (.t 1)), (.some ((.t 60), .false))⟩, ⟨(.some 63), (.call (.c (.fn 84 [])) [(.t 61), (.t 62), (.c (.int .u8 238)), (.c (.int .u8 239))]), (.some ((.t 60), .false))⟩, ⟨(.some 64), (.mov (.t 63)), (.some ((.t 60), .false))⟩, ⟨(.some 65), (.mov (.t 0)), (.some ((.t 64), .true))⟩, ⟨(.some 66), (.mov (.t 1)), (.some ((.t 64), .true))⟩, ⟨(.some 67), (.bin .add (.t 66) (.c (.int .i64 1))), (.some ((.t 64), .true))⟩, ⟨(.some 68), (.call (.c (.fn 96 [])) [(.t 65), (.t 67), (.c (.int .i64 2))]), (.some ((.t 64), .true))⟩, ⟨(.some 69), (.pick (.t 64) (.t 68) (.c (.bool .false))), (.some ((.t 60), .false))⟩, ⟨(.some 70), (.pick (.t 60) (.c (.bool .true)) (.t 69)), .none⟩]) (.cond (.t 70) (.seq (.reg .false [⟨(.some 4), (.mov (.c (.int .i64 3))), .none⟩]) .ret) .skip)) (.seq (.seq (.reg .false [⟨(.some 71), (.mov (.t 0)), .none⟩, ⟨(.some 72), (.mov (.t 1)), .none⟩, ⟨(.some 73), (.call (.c (.fn 84 [])) [(.t 71), (.t 72), (.c (.int .u8 240)), (.c (.int .u8 240))]), .none⟩, ⟨(.some 74), (.mov (.t 73)), .none⟩, ⟨(.some 75), (.mov (.t 0)), (.some ((.t 74), .true))⟩, ⟨(.some 76), (.mov (.t 1)), (.some ((.t 74), .true))⟩, ⟨(.some 77), (.bin .add (.t 76) (.c (.int .i64 1))), (.some ((.t 74), .true))⟩, ⟨(.some 78), (.call (.c (.fn 84 [])) [(.t 75), (.t 77), (.c (.int .u8 144)), (.c (.int .u8 191))]), (.some ((.t 74), .true))⟩, ⟨(.some 79), (.pick (.t 74) (.t 78) (.c (.bool .false))), .none⟩, ⟨(.some 80), (.mov (.t 79)), .none⟩, ⟨(.some 81), (.mov (.t 0)), (.some ((.t 80), .true))⟩, ⟨(.some 82), (.mov (.t 1)), (.some ((.t 80), .true))⟩, ⟨(.some 83), (.bin .add (.t 82) (.c (.int .i64 2))), (.some ((.t 80), .true))⟩, ⟨(.some 84), (.call (.c (.fn 96 [])) [(.t 81), (.t 83), (.c (.int .i64 2))]), (.some ((.t 80), .true))⟩, ⟨(.some 85), (.pick (.t 80) (.t 84) (.c (.bool .false))), .none⟩, ⟨(.some 86), (.mov (.t 85)), .none⟩, ⟨(.some 87), (.mov (.t 0)), (.some ((.t 86), .false))⟩, ⟨(.some 88), (.mov (.t 1)), (.some ((.t 86), .false))⟩, ⟨(.some 89), (.call (.c (.fn 84 [])) [(.t 87), (.t 88), (.c (.int .u8 241)), (.c (.int .u8 243))]), (.some ((.t 86), .false))⟩, ⟨(.some 90), (.mov (.t 89)), (.some ((.t 86), .false))⟩, ⟨(.some 91), (.mov (.t 0)), (.some ((.t 90), .true))⟩, ⟨(.some 92), (.mov (.t 1)), (.some ((.t 90), .true))⟩, ⟨(.some 93), (.bin .add (.t 92) (.c (.int .i64 1))), (.some ((.t 90), .true))⟩, ⟨(.some 94), (.call (.c (.fn 96 [])) [(.t 91), (.t 93), (.c (.int .i64 3))]), (.some ((.t 90), .true))⟩, ⟨(.some 95), (.pick (.t 90) (.t 94) (.c (.bool .false))), (.some ((.t 86), .false))⟩, ⟨(.some 96), (.pick (.t 86) (.c (.bool .true)) (.t 95)), .none⟩, ⟨(.some 97), (.mov (.t 96)), .none⟩, ⟨(.some 98), (.mov (.t 0)), (.some ((.t 97), .false))⟩, ⟨(.some 99), (.mov (.t 1)), (.some ((.t 97), .false))⟩, ⟨(.some 100), (.call (.c (.fn 84 [])) [(.t 98), (.t 99), (.c (.int .u8 244)), (.c (.int .u8 244))]), (.some ((.t 97), .false))⟩, ⟨(.some 101), (.mov (.t 100)), (.some ((.t 97), .false))⟩, ⟨(.some 102), (.mov (.t 0)), (.some ((.t 101), .true))⟩, ⟨(.some 103), (.mov (.t 1)), (.some ((.t 101), .true))⟩, ⟨(.some 104), (.bin .add (.t 103) (.c (.int .i64 1))), (.some ((.t 101), .true))⟩, ⟨(.some 105), (.call (.c (.fn 84 [])) [(.t 102), (.t 104), (.c (.int .u8 128)), (.c (.int .u8 143))]), (.some ((.t 101), .true))⟩, ⟨(.some 106), (.pick (.t 101) (.t 105) (.c (.bool .false))), (.some ((.t 97), .false))⟩, ⟨(.some 107), (.mov (.t 106)), (.some ((.t 97), .false))⟩, ⟨(.some 108), (.mov (.t 0)), (.some ((.t 107), .true))⟩, ⟨(.some 109), (.mov (.t 1)), (.some ((.t 107), .true))⟩, ⟨(.some 110), (.bin .add (.t 109) (.c (.int .i64 2))), (.some ((.t 107), .true))⟩, ⟨(.some 111), (.call (.c (.fn 96 [])) [(.t 108), (.t 110), (.c (.int .i64 2))]), (.some ((.t 107), .true))⟩, ⟨(.some 112), (.pick (.t 107) (.t 111) (.c (.bool .false))), (.some ((.t 97), .false))⟩, ⟨(.some 113), (.pick (.t 97) (.c (.bool .true)) (.t 112)), .none⟩]) (.cond (.t 113) (.seq (.reg .false [⟨(.some 4), (.mov (.c (.int .i64 4))), .none⟩]) .ret) .skip)) (.seq (.reg .false [⟨(.some 4), (.mov (.c (.int .i64 0))), .none⟩]) .ret)))))), [(.tmp (.t 4))]⟩
theorem e83 : cfn Try.prog Try.f83 = some c83 := by kernel_rfl
theorem k83 : callable Try.prog 83 = true := by kernel_rfl
def c84 : VFn := ⟨27, (.seq (.reg .false [⟨(.some 8), (.mov (.c (.bool .false))), .none⟩]) (.seq (.reg .false [⟨(.some 9), (.mov (.t 1)), .none⟩, ⟨(.some 10), (.mov (.t 0)), .none⟩, ⟨(.some 11), (.len .true (.t 10)), .none⟩, ⟨(.some 12), (.bin .lss (.t 9) (.t 11)), .none⟩, ⟨(.some 13), (.mov (.t 12)), .none⟩, ⟨(.some 14), (.mov (.t 0)), (.some ((.t 13), .true))⟩, ⟨(.some 15), (.mov (.t 1)), (.some ((.t 13), .true))⟩, ⟨(.some 16), (.idxS (.t 14) (.t 15)), (.some ((.t 13), .true))⟩, ⟨(.some 17), (.mov (.t 2)), (.some ((.t 13), .true))⟩, ⟨(.some 18), (.bin .geq (.t 16) (.t 17)), (.some ((.t 13), .true))⟩, ⟨(.some 19), (.pick (.t 13) (.t 18) (.c (.bool .false))), .none⟩, ⟨(.some 20), (.mov (.t 19)), .none⟩, ⟨(.some 21), (.mov (.t 0)), (.some ((.t 20), .true))⟩, ⟨(.some 22), (.mov (.t 1)), (.some ((.t 20), .true))⟩, ⟨(.some 23), (.idxS (.t 21) (.t 22)), (.some ((.t 20), .true))⟩, ⟨(.some 24), (.mov (.t 3)), (.some ((.t 20), .true))⟩, ⟨(.some 25), (.bin .leq (.t 23) (.t 24)), (.some ((.t 20), .true))⟩, ⟨(.some 26), (.pick (.t 20) (.t 25) (.c (.bool .false))), .none⟩, ⟨(.some 8), (.mov (.t 26)), .none⟩]) .ret)), [(.tmp (.t 8))]⟩
theorem e84 : cfn Try.prog Try.f84 = some c84 := by kernel_rfl
theorem k84 : callable Try.prog 84 = true := by kernel_rfl
def c85 : VFn := ⟨43, (.seq (.reg .false [⟨(.some 6), (.mov (.c (.int .i32 0))), .none⟩]) (.seq (.seq (.reg .false [⟨(.some 10), (.mov (.t 2)), .none⟩, ⟨(.some 11), (.bin .eql (.t 10) (.c (.int .i64 1))), .none⟩]) (.cond (.t 11) (.seq (.reg .false [⟨(.some 12), (.mov (.t 0)), .none⟩, ⟨(.some 13), (.mov (.t 1)), .none⟩, ⟨(.some 14), (.idxS (.t 12) (.t 13)), .none⟩, ⟨(.some 15), (.convI .i32 (.t 14)), .none⟩, ⟨(.some 6), (.mov (.t 15)), .none⟩]) .ret) .skip)) (.seq (.reg .false [⟨(.some 16), (.bslice 3 1 [(.c (.int .i64 0)), (.c (.int .i64 0)), (.c (.int .i64 192)), (.c (.int .i64 224)), (.c (.int .i64 240))]), .none⟩, ⟨(.some 7), (.mov (.t 16)), .none⟩]) (.seq (.reg .true [⟨(.some 17), (.mov (.t 0)), .none⟩, ⟨(.some 18), (.mov (.t 1)), .none⟩, ⟨(.some 19), (.idxS (.t 17) (.t 18)), .none⟩, ⟨(.some 20), (.convI .i64 (.t 19)), .none⟩, ⟨(.some 21), (.mov (.t 7)), .none⟩, ⟨(.some 22), (.mov (.t 2)), .none⟩, ⟨(.some 23), (.idxA 1 (.t 21) (.t 22)), .none⟩, ⟨(.some 24), (.load .false 1 (.t 23)), .none⟩, ⟨(.some 25), (.bin .sub (.t 20) (.t 24)), .none⟩, ⟨(.some 8), (.mov (.t 25)), .none⟩]) (.seq (.seq (.reg .false [⟨(.some 9), (.mov (.c (.int .i64 1))), .none⟩]) (.block 0 (.loop (.seq (.seq (.reg .false [⟨(.some 26), (.mov (.t 9)), .none⟩, ⟨(.some 27), (.mov (.t 2)), .none⟩, ⟨(.some 28), (.bin .lss (.t 26) (.t 27)), .none⟩]) (.cond (.t 28) .skip (.exit 0))) (.seq (.block 1 (.reg .false [⟨(.some 31), (.mov (.t 8)), .none⟩, ⟨(.some 32), (.bin .mul (.c (.int .i64 64)) (.t 31)), .none⟩, ⟨(.some 33), (.mov (.t 0)), .none⟩, ⟨(.some 34), (.mov (.t 1)), .none⟩, ⟨(.some 35), (.mov (.t 9)), .none⟩, ⟨(.some 36), (.bin .add (.t 34) (.t 35)), .none⟩, ⟨(.some 37), (.idxS (.t 33) (.t 36)), .none⟩, ⟨(.some 38), (.convI .i64 (.t 37)), .none⟩, ⟨(.some 39), (.bin .add (.t 32) (.t 38)), .none⟩, ⟨(.some 40), (.bin .sub (.t 39) (.c (.int .i64 128))), .none⟩, ⟨(.some 8), (.mov (.t 40)), .none⟩])) (.reg .false [⟨(.some 29), (.mov (.t 9)), .none⟩, ⟨(.some 30), (.bin .add (.t 29) (.c (.int .i64 1))), .none⟩, ⟨(.some 9), (.mov (.t 30)), .none⟩])))))) (.seq (.reg .false [⟨(.some 41), (.mov (.t 8)), .none⟩, ⟨(.some 42), (.convI .i32 (.t 41)), .none⟩, ⟨(.some 6), (.mov (.t 42)), .none⟩]) .ret)))))), [(.tmp (.t 6))]⟩
theorem e85 : cfn Try.prog Try.f85 = some c85 := by kernel_rfl
theorem k85 : callable Try.prog 85 = true := by kernel_rfl
def c86 : VFn := ⟨28, (.seq (.reg .false [⟨(.some 6), (.mov (.c (.bool .false))), .none⟩]) (.seq (.reg .false [⟨(.some 7), (.mov (.t 1)), .none⟩, ⟨(.some 8), (.mov (.t 0)), .none⟩, ⟨(.some 9), (.len .false (.t 8)), .none⟩, ⟨(.some 10), (.bin .lss (.t 7) (.t 9)), .none⟩, ⟨(.some 11), (.mov (.t 10)), .none⟩, ⟨(.some 12), (.mov (.t 0)), (.some ((.t 11), .true))⟩, ⟨(.some 13), (.mov (.t 1)), (.some ((.t 11), .true))⟩, ⟨(.some 14), (.idxA 4 (.t 12) (.t 13)), (.some ((.t 11), .true))⟩, ⟨(.some 15), (.fldA .false 0 1 (.t 14)), (.some ((.t 11), .true))⟩, ⟨(.some 16), (.load .false 1 (.t 15)), (.some ((.t 11), .true))⟩, ⟨(.some 17), (.bin .eql (.t 16) (.c (.int .i64 1))), (.some ((.t 11), .true))⟩, ⟨(.some 18), (.pick (.t 11) (.t 17) (.c (.bool .false))), .none⟩, ⟨(.some 19), (.mov (.t 18)), .none⟩, ⟨(.some 20), (.mov (.t 0)), (.some ((.t 19), .true))⟩, ⟨(.some 21), (.mov (.t 1)), (.some ((.t 19), .true))⟩, ⟨(.some 22), (.idxA 4 (.t 20) (.t 21)), (.some ((.t 19), .true))⟩, ⟨(.some 23), (.fldA .false 1 1 (.t 22)), (.some ((.t 19), .true))⟩, ⟨(.some 24), (.load .false 1 (.t 23)), (.some ((.t 19), .true))⟩, ⟨(.some 25), (.mov (.t 2)), (.some ((.t 19), .true))⟩, ⟨(.some 26), (.bin .eql (.t 24) (.t 25)), (.some ((.t 19), .true))⟩, ⟨(.some 27), (.pick (.t 19) (.t 26) (.c (.bool .false))), .none⟩, ⟨(.some 6), (.mov (.t 27)), .none⟩]) .ret)), [(.tmp (.t 6))]⟩
theorem e86 : cfn Try.prog Try.f86 = some c86 := by kernel_rfl
theorem k86 : callable Try.prog 86 = true := by kernel_rfl
def c87 : VFn := ⟨46, (.seq (.reg .false [⟨(.some 4), (.alloc 94 3 (.agg [.nils, (.int .i64 0), (.int .i64 0)])), .none⟩]) (.seq (.seq (.reg .false [⟨(.some 5), (.mov (.t 0)), .none⟩, ⟨(.some 6), (.mov (.t 1)), .none⟩, ⟨(.some 7), (.call (.c (.fn 86 [])) [(.t 5), (.t 6), (.c (.int .i32 91))]), .none⟩]) (.cond (.t 7) (.seq (.reg .false [⟨(.some 8), (.mov (.t 0)), .none⟩, ⟨(.some 9), (.mov (.t 1)), .none⟩, ⟨(.some 10), (.call (.c (.fn 97 [])) [(.t 8), (.t 9)]), .none⟩, ⟨.none, (.store 3 (.t 4) (.t 10)), .none⟩]) .ret) .skip)) (.seq (.seq (.reg .false [⟨(.some 11), (.mov (.t 0)), .none⟩, ⟨(.some 12), (.mov (.t 1)), .none⟩, ⟨(.some 13), (.call (.c (.fn 86 [])) [(.t 11), (.t 12), (.c (.int .i32 40))]), .none⟩]) (.cond (.t 13) (.seq (.reg .false [⟨(.some 14), (.mov (.t 0)), .none⟩, ⟨(.some 15), (.mov (.t 1)), .none⟩, ⟨(.some 16), (.call (.c (.fn 98 [])) [(.t 14), (.t 15)]), .none⟩, ⟨.none, (.store 3 (.t 4) (.t 16)), .none⟩]) .ret) .skip)) (.seq (.seq (.reg .false [⟨(.some 17), (.mov (.t 0)), .none⟩, ⟨(.some 18), (.mov (.t 1)), .none⟩, ⟨(.some 19), (.call (.c (.fn 86 [])) [(.t 17), (.t 18), (.c (.int .i32 123))]), .none⟩]) (.cond (.t 19) (.seq (.reg .false [⟨(.some 20), (.mov (.t 0)), .none⟩, ⟨(.some 21), (.mov (.t 1)), .none⟩, ⟨(.some 22), (.bin .add (.t 21) (.c (.int .i64 1))), .none⟩, ⟨(.some 23), (.build [(.int .i64 0), (.int .i64 0), (.int .i64 0), (.int .i64 0), (.int .i64 0), (.int .i64 0), (.int .i64 0), (.int .i64 0), (.int .i64 0), (.int .i64 0), (.int .i64 0), (.int .i64 0), (.int .i64 0), (.int .i64 0), (.int .i64 0), (.int .i64 0), .nils, (.int .i64 0), (.int .i64 0), (.int .i64 0)] [(0, (1, (.c (.int .i64 3)))), (1, (1, (.c (.int .i64 1))))]), .none⟩, ⟨(.some 24), (.call (.c (.fn 99 [])) [(.t 20), (.t 22), (.t 23), (.c (.int .i32 125))]), .none⟩, ⟨.none, (.store 3 (.t 4) (.t 24)), .none⟩]) .ret) .skip)) (.seq (.seq (.reg .false [⟨(.some 25), (.mov (.t 0)), .none⟩, ⟨(.some 26), (.mov (.t 1)), .none⟩, ⟨(.some 27), (.bin .add (.t 26) (.c (.int .i64 1))), .none⟩, ⟨(.some 28), (.call (.c (.fn 86 [])) [(.t 25), (.t 27), (.c (.int .i32 76))]), .none⟩]) (.cond (.t 28) (.seq (.reg .false [⟨(.some 29), (.mov (.t 0)), .none⟩, ⟨(.some 30), (.mov (.t 1)), .none⟩, ⟨(.some 31), (.bin .add (.t 30) (.c (.int .i64 2))), .none⟩, ⟨(.some 32), (.build [(.int .i64 0), (.int .i64 0), (.int .i64 0), (.int .i64 0), (.int .i64 0), (.int .i64 0), (.int .i64 0), (.int .i64 0), (.int .i64 0), (.int .i64 0), (.int .i64 0), (.int .i64 0), (.int .i64 0), (.int .i64 0), (.int .i64 0), (.int .i64 0), .nils, (.int .i64 0), (.int .i64 0), (.int .i64 0)] [(0, (1, (.c (.int .i64 4)))), (1, (1, (.c (.int .i64 1)))), (17, (1, (.c (.int .i64 1))))]), .none⟩, ⟨(.some 33), (.call (.c (.fn 99 [])) [(.t 29), (.t 31), (.t 32), (.c (.int .i32 62))]), .none⟩, ⟨.none, (.store 3 (.t 4) (.t 33)), .none⟩]) .ret) .skip)) (.seq (.seq (.reg .false [⟨(.some 34), (.mov (.t 0)), .none⟩, ⟨(.some 35), (.mov (.t 1)), .none⟩, ⟨(.some 36), (.bin .add (.t 35) (.c (.int .i64 1))), .none⟩, ⟨(.some 37), (.call (.c (.fn 86 [])) [(.t 34), (.t 36), (.c (.int .i32 82))]), .none⟩]) (.cond (.t 37) (.seq (.reg .false [⟨(.some 38), (.mov (.t 0)), .none⟩, ⟨(.some 39), (.mov (.t 1)), .none⟩, ⟨(.some 40), (.bin .add (.t 39) (.c (.int .i64 2))), .none⟩, ⟨(.some 41), (.build [(.int .i64 0), (.int .i64 0), (.int .i64 0), (.int .i64 0), (.int .i64 0), (.int .i64 0), (.int .i64 0), (.int .i64 0), (.int .i64 0), (.int .i64 0), (.int .i64 0), (.int .i64 0), (.int .i64 0), (.int .i64 0), (.int .i64 0), (.int .i64 0), .nils, (.int .i64 0), (.int .i64 0), (.int .i64 0)] [(0, (1, (.c (.int .i64 4)))), (1, (1, (.c (.int .i64 1)))), (17, (1, (.c (.int .i64 2))))]), .none⟩, ⟨(.some 42), (.call (.c (.fn 99 [])) [(.t 38), (.t 40), (.t 41), (.c (.int .i32 62))]), .none⟩, ⟨.none, (.store 3 (.t 4) (.t 42)), .none⟩]) .ret) .skip)) (.seq (.reg .false [⟨(.some 43), (.mov (.t 1)), .none⟩, ⟨(.some 44), (.bin .add (.t 43) (.c (.int .i64 1))), .none⟩, ⟨(.some 45), (.build [.nils, (.int .i64 0), (.int .i64 0)] [(0, (1, (.c .nils))), (1, (1, (.t 44))), (2, (1, (.c (.int .i64 1))))]), .none⟩, ⟨.none, (.store 3 (.t 4) (.t 45)), .none⟩]) .ret))))))), [(.cell .true 3 (.t 4))]⟩
theorem e87 : cfn Try.prog Try.f87 = some c87 := by kernel_rfl
theorem k87 : callable Try.prog 87 = true := by kernel_rfl
def c96 : VFn := ⟨19, (.seq (.reg .false [⟨(.some 6), (.mov (.c (.bool .false))), .none⟩]) (.seq (.seq (.reg .false [⟨(.some 7), (.mov (.c (.int .i64 0))), .none⟩]) (.block 0 (.loop (.seq (.seq (.reg .false [⟨(.some 8), (.mov (.t 7)), .none⟩, ⟨(.some 9), (.mov (.t 2)), .none⟩, ⟨(.some 10), (.bin .lss (.t 8) (.t 9)), .none⟩]) (.cond (.t 10) .skip (.exit 0))) (.seq (.block 1 (.seq (.reg .false [⟨(.some 13), (.mov (.t 0)), .none⟩, ⟨(.some 14), (.mov (.t 1)), .none⟩, ⟨(.some 15), (.mov (.t 7)), .none⟩, ⟨(.some 16), (.bin .add (.t 14) (.t 15)), .none⟩, ⟨(.some 17), (.call (.c (.fn 84 [])) [(.t 13), (.t 16), (.c (.int .u8 128)), (.c (.int .u8 191))]), .none⟩, ⟨(.some 18), (.not (.t 17)), .none⟩]) (.cond (.t 18) (.seq (.reg .false [⟨(.some 6), (.mov (.c (.bool .false))), .none⟩]) .ret) .skip))) (.reg .false [⟨(.some 11), (.mov (.t 7)), .none⟩, ⟨(.some 12), (.bin .add (.t 11) (.c (.int .i64 1))), .none⟩, ⟨(.some 7), (.mov (.t 12)), .none⟩])))))) (.seq (.reg .false [⟨(.some 6), (.mov (.c (.bool .true))), .none⟩]) .ret))), [(.tmp (.t 6))]⟩
theorem e96 : cfn Try.prog Try.f96 = some c96 := by kernel_rfl
theorem k96 : callable Try.prog 96 = true := by kernel_rfl
def c97 : VFn := ⟨85, (.seq (.reg .false [⟨(.some 4), (.alloc 94 3 (.agg [.nils, (.int .i64 0), (.int .i64 0)])), .none⟩]) (.seq (.reg .false [⟨(.some 12), (.mov (.t 1)), .none⟩, ⟨(.some 13), (.bin .add (.t 12) (.c (.int .i64 1))), .none⟩, ⟨(.some 1), (.mov (.t 13)), .none⟩]) (.seq (.reg .false [⟨(.some 14), (.build [(.int .i64 0), (.int .i64 0), (.int .i64 0), (.int .i64 0), (.int .i64 0), (.int .i64 0), (.int .i64 0), (.int .i64 0), (.int .i64 0), (.int .i64 0), (.int .i64 0), (.int .i64 0)] [(5, (1, (.c (.int .i64 2)))), (6, (1, (.c (.int .i64 2))))]), .none⟩, ⟨(.some 5), (.alloc 25 12 (.agg [(.int .i64 0), (.int .i64 0), (.int .i64 0), (.int .i64 0), (.int .i64 0), (.int .i64 0), (.int .i64 0), (.int .i64 0), (.int .i64 0), (.int .i64 0), (.int .i64 0), (.int .i64 0)])), .none⟩, ⟨.none, (.store 12 (.t 5) (.t 14)), .none⟩]) (.seq (.reg .false [⟨(.some 6), (.mov (.c (.str []))), .none⟩]) (.seq (.block 0 (.loop (.seq (.seq (.reg .false [⟨(.some 15), (.mov (.t 0)), .none⟩, ⟨(.some 16), (.mov (.t 1)), .none⟩, ⟨(.some 17), (.mov (.t 6)), .none⟩, ⟨(.some 18), (.call (.c (.fn 101 [])) [(.t 15), (.t 16), (.t 17)]), .none⟩, ⟨(.some 19), (.bin .neq (.t 18) (.c (.int .u8 0))), .none⟩]) (.cond (.t 19) .skip (.exit 0))) (.block 1 (.seq (.reg .false [⟨(.some 20), (.mov (.t 0)), .none⟩, ⟨(.some 21), (.mov (.t 1)), .none⟩, ⟨(.some 22), (.mov (.t 6)), .none⟩, ⟨(.some 23), (.call (.c (.fn 101 [])) [(.t 20), (.t 21), (.t 22)]), .none⟩, ⟨(.some 7), (.mov (.t 23)), .none⟩]) (.seq (.reg .false [⟨(.some 25), (.mov (.t 7)), .none⟩, ⟨(.some 26), (.call (.c (.fn 102 [])) [(.t 25)]), .none⟩, ⟨(.some 24), (.mov (.t 26)), .none⟩, ⟨(.some 27), (.ext 0 (.t 24)), .none⟩, ⟨(.some 28), (.ext 1 (.t 24)), .none⟩, ⟨(.some 8), (.mov (.t 27)), .none⟩, ⟨(.some 9), (.mov (.t 28)), .none⟩]) (.seq (.seq (.reg .false [⟨(.some 29), (.mov (.t 0)), .none⟩, ⟨(.some 30), (.mov (.t 1)), .none⟩, ⟨(.some 31), (.bin .add (.t 30) (.c (.int .i64 1))), .none⟩, ⟨(.some 32), (.mov (.t 8)), .none⟩, ⟨(.some 33), (.mov (.t 9)), .none⟩, ⟨(.some 34), (.call (.c (.fn 103 [])) [(.t 29), (.t 31), (.t 32), (.t 33)]), .none⟩, ⟨(.some 35), (.not (.t 34)), .none⟩]) (.cond (.t 35) (.seq (.reg .false [⟨(.some 36), (.mov (.t 1)), .none⟩, ⟨(.some 37), (.bin .add (.t 36) (.c (.int .i64 1))), .none⟩, ⟨(.some 38), (.build [.nils, (.int .i64 0), (.int .i64 0)] [(0, (1, (.c .nils))), (1, (1, (.t 37))), (2, (1, (.c (.int .i64 1))))]), .none⟩, ⟨.none, (.store 3 (.t 4) (.t 38)), .none⟩]) .ret) .skip)) (.seq (.reg .true [⟨(.some 39), (.load .true 12 (.t 5)), .none⟩, ⟨(.some 40), (.mov (.t 7)), .none⟩, ⟨(.some 41), (.mov (.t 0)), .none⟩, ⟨(.some 42), (.mov (.t 1)), .none⟩, ⟨(.some 43), (.bin .add (.t 42) (.c (.int .i64 1))), .none⟩, ⟨(.some 44), (.idxA 4 (.t 41) (.t 43)), .none⟩, ⟨(.some 45), (.fldA .false 2 1 (.t 44)), .none⟩, ⟨(.some 46), (.load .false 1 (.t 45)), .none⟩, ⟨(.some 47), (.call (.c (.fn 104 [])) [(.t 39), (.t 40), (.t 46)]), .none⟩, ⟨.none, (.store 12 (.t 5) (.t 47)), .none⟩]) (.seq (.reg .false [⟨(.some 48), (.mov (.t 6)), .none⟩, ⟨(.some 49), (.mov (.t 7)), .none⟩, ⟨(.some 50), (.bslice 5 1 [(.t 49)]), .none⟩, ⟨(.some 51), (.bstr (.t 50)), .none⟩, ⟨(.some 52), (.bin .add (.t 48) (.t 51)), .none⟩, ⟨(.some 6), (.mov (.t 52)), .none⟩]) (.reg .false [⟨(.some 53), (.mov (.t 1)), .none⟩, ⟨(.some 54), (.bin .add (.t 53) (.c (.int .i64 2))), .none⟩, ⟨(.some 1), (.mov (.t 54)), .none⟩])))))))))) (.seq (.reg .false [⟨(.some 55), (.mov (.t 0)), .none⟩, ⟨(.some 56), (.mov (.t 1)), .none⟩, ⟨(.some 57), (.call (.c (.fn 60 [])) [(.t 55), (.t 56)]), .none⟩, ⟨(.some 10), (.alloc 94 3 (.agg [.nils, (.int .i64 0), (.int .i64 0)])), .none⟩, ⟨.none, (.store 3 (.t 10) (.t 57)), .none⟩]) (.seq (.seq (.reg .false [⟨(.some 58), (.fldA .false 2 1 (.t 10)), .none⟩, ⟨(.some 59), (.load .false 1 (.t 58)), .none⟩, ⟨(.some 60), (.bin .eql (.t 59) (.c (.int .i64 1))), .none⟩]) (.cond (.t 60) (.seq (.reg .false [⟨(.some 61), (.load .true 3 (.t 10)), .none⟩, ⟨.none, (.store 3 (.t 4) (.t 61)), .none⟩]) .ret) .skip)) (.seq (.seq (.reg .false [⟨(.some 62), (.mov (.t 0)), .none⟩, ⟨(.some 63), (.fldA .false 1 1 (.t 10)), .none⟩, ⟨(.some 64), (.load .false 1 (.t 63)), .none⟩, ⟨(.some 65), (.call (.c (.fn 86 [])) [(.t 62), (.t 64), (.c (.int .i32 93))]), .none⟩, ⟨(.some 66), (.not (.t 65)), .none⟩]) (.cond (.t 66) (.seq (.reg .false [⟨(.some 67), (.fldA .false 1 1 (.t 10)), .none⟩, ⟨(.some 68), (.load .false 1 (.t 67)), .none⟩, ⟨(.some 69), (.build [.nils, (.int .i64 0), (.int .i64 0)] [(0, (1, (.c .nils))), (1, (1, (.t 68))), (2, (1, (.c (.int .i64 1))))]), .none⟩, ⟨.none, (.store 3 (.t 4) (.t 69)), .none⟩]) .ret) .skip)) (.seq (.reg .false [⟨(.some 70), (.fldA .false 0 1 (.t 10)), .none⟩, ⟨(.some 71), (.load .false 1 (.t 70)), .none⟩, ⟨(.some 72), (.len .false (.t 71)), .none⟩, ⟨(.some 73), (.bin .add (.c (.int .i64 1)) (.t 72)), .none⟩, ⟨(.some 74), (.load .true 12 (.t 5)), .none⟩, ⟨(.some 75), (.build [(.int .i64 0), (.int .i64 0), (.int .i64 0), (.int .i64 0), (.int .i64 0), (.int .i64 0), (.int .i64 0), (.int .i64 0), (.int .i64 0), (.int .i64 0), (.int .i64 0), (.int .i64 0), (.int .i64 0), (.int .i64 0), (.int .i64 0), (.int .i64 0), .nils, (.int .i64 0), (.int .i64 0), (.int .i64 0)] [(0, (1, (.c (.int .i64 1)))), (1, (1, (.t 73))), (2, (12, (.t 74)))]), .none⟩, ⟨(.some 11), (.alloc 28 20 (.agg [(.int .i64 0), (.int .i64 0), (.int .i64 0), (.int .i64 0), (.int .i64 0), (.int .i64 0), (.int .i64 0), (.int .i64 0), (.int .i64 0), (.int .i64 0), (.int .i64 0), (.int .i64 0), (.int .i64 0), (.int .i64 0), (.int .i64 0), (.int .i64 0), .nils, (.int .i64 0), (.int .i64 0), (.int .i64 0)])), .none⟩, ⟨.none, (.store 20 (.t 11) (.t 75)), .none⟩]) (.seq (.reg .true [⟨(.some 76), (.load .true 20 (.t 11)), .none⟩, ⟨(.some 77), (.bslice 28 20 [(.t 76)]), .none⟩, ⟨(.some 78), (.fldA .false 0 1 (.t 10)), .none⟩, ⟨(.some 79), (.load .false 1 (.t 78)), .none⟩, ⟨(.some 80), (.append 28 20 176 (.t 77) (.t 79)), .none⟩, ⟨(.some 81), (.fldA .false 1 1 (.t 10)), .none⟩, ⟨(.some 82), (.load .false 1 (.t 81)), .none⟩, ⟨(.some 83), (.bin .add (.t 82) (.c (.int .i64 1))), .none⟩, ⟨(.some 84), (.build [.nils, (.int .i64 0), (.int .i64 0)] [(0, (1, (.t 80))), (1, (1, (.t 83))), (2, (1, (.c (.int .i64 0))))]), .none⟩, ⟨.none, (.store 3 (.t 4) (.t 84)), .none⟩]) .ret)))))))))), [(.cell .true 3 (.t 4))]⟩
theorem e97 : cfn Try.prog Try.f97 = some c97 := by kernel_rfl
theorem k97 : callable Try.prog 97 = true := by kernel_rfl
def c98 : VFn := ⟨73, (.seq (.reg .false [⟨(.some 4), (.alloc 94 3 (.agg [.nils, (.int .i64 0), (.int .i64 0)])), .none⟩]) (.seq (.seq (.reg .false [⟨(.some 7), (.mov (.t 0)), .none⟩, ⟨(.some 8), (.mov (.t 1)), .none⟩, ⟨(.some 9), (.bin .add (.t 8) (.c (.int .i64 1))), .none⟩, ⟨(.some 10), (.call (.c (.fn 105 [])) []), .none⟩, ⟨(.some 11), (.call (.c (.fn 103 [])) [(.t 7), (.t 9), (.c (.int .i64 1)), (.t 10)]), .none⟩, ⟨(.some 12), (.not (.t 11)), .none⟩]) (.cond (.t 12) (.seq (.reg .false [⟨(.some 13), (.mov (.t 1)), .none⟩, ⟨(.some 14), (.bin .add (.t 13) (.c (.int .i64 1))), .none⟩, ⟨(.some 15), (.build [.nils, (.int .i64 0), (.int .i64 0)] [(0, (1, (.c .nils))), (1, (1, (.t 14))), (2, (1, (.c (.int .i64 1))))]), .none⟩, ⟨.none, (.store 3 (.t 4) (.t 15)), .none⟩]) .ret) .skip)) (.seq (.seq (.reg .false [⟨(.some 16), (.mov (.t 0)), .none⟩, ⟨(.some 17), (.mov (.t 1)), .none⟩, ⟨(.some 18), (.bin .add (.t 17) (.c (.int .i64 2))), .none⟩, ⟨(.some 19), (.call (.c (.fn 105 [])) []), .none⟩, ⟨(.some 20), (.call (.c (.fn 103 [])) [(.t 16), (.t 18), (.c (.int .i64 0)), (.t 19)]), .none⟩, ⟨(.some 21), (.not (.t 20)), .none⟩]) (.cond (.t 21) (.seq (.reg .false [⟨(.some 22), (.mov (.t 1)), .none⟩, ⟨(.some 23), (.bin .add (.t 22) (.c (.int .i64 2))), .none⟩, ⟨(.some 24), (.build [.nils, (.int .i64 0), (.int .i64 0)] [(0, (1, (.c .nils))), (1, (1, (.t 23))), (2, (1, (.c (.int .i64 1))))]), .none⟩, ⟨.none, (.store 3 (.t 4) (.t 24)), .none⟩]) .ret) .skip)) (.seq (.reg .true [⟨(.some 25), (.mov (.t 0)), .none⟩, ⟨(.some 26), (.mov (.t 1)), .none⟩, ⟨(.some 27), (.bin .add (.t 26) (.c (.int .i64 1))), .none⟩, ⟨(.some 28), (.idxA 4 (.t 25) (.t 27)), .none⟩, ⟨(.some 29), (.fldA .false 2 1 (.t 28)), .none⟩, ⟨(.some 30), (.load .false 1 (.t 29)), .none⟩, ⟨(.some 31), (.mov (.t 0)), .none⟩, ⟨(.some 32), (.mov (.t 1)), .none⟩, ⟨(.some 33), (.bin .add (.t 32) (.c (.int .i64 2))), .none⟩, ⟨(.some 34), (.idxA 4 (.t 31) (.t 33)), .none⟩, ⟨(.some 35), (.fldA .false 2 1 (.t 34)), .none⟩, ⟨(.some 36), (.load .false 1 (.t 35)), .none⟩, ⟨(.some 37), (.build [(.int .i64 0), (.int .i64 0), (.int .i64 0), (.int .i64 0), (.int .i64 0), (.int .i64 0), (.int .i64 0), (.int .i64 0), (.int .i64 0), (.int .i64 0), (.int .i64 0), (.int .i64 0), (.int .i64 0), (.int .i64 0), (.int .i64 0), (.int .i64 0), .nils, (.int .i64 0), (.int .i64 0), (.int .i64 0)] [(0, (1, (.c (.int .i64 2)))), (1, (1, (.c (.int .i64 1)))), (14, (1, (.t 30))), (15, (1, (.t 36)))]), .none⟩, ⟨(.some 5), (.alloc 28 20 (.agg [(.int .i64 0), (.int .i64 0), (.int .i64 0), (.int .i64 0), (.int .i64 0), (.int .i64 0), (.int .i64 0), (.int .i64 0), (.int .i64 0), (.int .i64 0), (.int .i64 0), (.int .i64 0), (.int .i64 0), (.int .i64 0), (.int .i64 0), (.int .i64 0), .nils, (.int .i64 0), (.int .i64 0), (.int .i64 0)])), .none⟩, ⟨.none, (.store 20 (.t 5) (.t 37)), .none⟩]) (.seq (.reg .false [⟨(.some 38), (.mov (.t 1)), .none⟩, ⟨(.some 39), (.bin .add (.t 38) (.c (.int .i64 3))), .none⟩, ⟨(.some 6), (.mov (.t 39)), .none⟩]) (.seq (.block 0 (.loop (.seq (.seq (.reg .false [⟨(.some 40), (.mov (.t 0)), .none⟩, ⟨(.some 41), (.mov (.t 6)), .none⟩, ⟨(.some 42), (.call (.c (.fn 105 [])) []), .none⟩, ⟨(.some 43), (.call (.c (.fn 103 [])) [(.t 40), (.t 41), (.c (.int .i64 1)), (.t 42)]), .none⟩]) (.cond (.t 43) .skip (.exit 0))) (.block 1 (.seq (.reg .true [⟨(.some 44), (.fldA .false 16 1 (.t 5)), .none⟩, ⟨(.some 45), (.load .false 1 (.t 44)), .none⟩, ⟨(.some 46), (.mov (.t 0)), .none⟩, ⟨(.some 47), (.mov (.t 6)), .none⟩, ⟨(.some 48), (.idxA 4 (.t 46) (.t 47)), .none⟩, ⟨(.some 49), (.fldA .false 2 1 (.t 48)), .none⟩, ⟨(.some 50), (.load .false 1 (.t 49)), .none⟩, ⟨(.some 51), (.bslice 3 1 [(.t 50)]), .none⟩, ⟨(.some 52), (.append 3 1 8 (.t 45) (.t 51)), .none⟩, ⟨(.some 53), (.fldA .false 16 1 (.t 5)), .none⟩, ⟨.none, (.store 1 (.t 53) (.t 52)), .none⟩]) (.reg .false [⟨(.some 54), (.mov (.t 6)), .none⟩, ⟨(.some 55), (.bin .add (.t 54) (.c (.int .i64 1))), .none⟩, ⟨(.some 6), (.mov (.t 55)), .none⟩])))))) (.seq (.seq (.reg .false [⟨(.some 56), (.fldA .false 16 1 (.t 5)), .none⟩, ⟨(.some 57), (.load .false 1 (.t 56)), .none⟩, ⟨(.some 58), (.len .false (.t 57)), .none⟩, ⟨(.some 59), (.bin .eql (.t 58) (.c (.int .i64 0))), .none⟩, ⟨(.some 60), (.mov (.t 59)), .none⟩, ⟨(.some 61), (.mov (.t 0)), (.some ((.t 60), .false))⟩, ⟨(.some 62), (.mov (.t 6)), (.some ((.t 60), .false))⟩, ⟨(.some 63), (.call (.c (.fn 86 [])) [(.t 61), (.t 62), (.c (.int .i32 41))]), (.some ((.t 60), .false))⟩, ⟨(.some 64), (.not (.t 63)), (.some ((.t 60), .false))⟩, ⟨(.some 65), (.pick (.t 60) (.c (.bool .true)) (.t 64)), .none⟩]) (.cond (.t 65) (.seq (.reg .false [⟨(.some 66), (.mov (.t 6)), .none⟩, ⟨(.some 67), (.build [.nils, (.int .i64 0), (.int .i64 0)] [(0, (1, (.c .nils))), (1, (1, (.t 66))), (2, (1, (.c (.int .i64 1))))]), .none⟩, ⟨.none, (.store 3 (.t 4) (.t 67)), .none⟩]) .ret) .skip)) (.seq (.reg .false [⟨(.some 68), (.load .true 20 (.t 5)), .none⟩, ⟨(.some 69), (.bslice 28 20 [(.t 68)]), .none⟩, ⟨(.some 70), (.mov (.t 6)), .none⟩, ⟨(.some 71), (.bin .add (.t 70) (.c (.int .i64 1))), .none⟩, ⟨(.some 72), (.build [.nils, (.int .i64 0), (.int .i64 0)] [(0, (1, (.t 69))), (1, (1, (.t 71))), (2, (1, (.c (.int .i64 0))))]), .none⟩, ⟨.none, (.store 3 (.t 4) (.t 72)), .none⟩]) .ret)))))))), [(.cell .true 3 (.t 4))]⟩
theorem e98 : cfn Try.prog Try.f98 = some c98 := by kernel_rfl
theorem k98 : callable Try.prog 98 = true := by kernel_rfl
def c99 : VFn := ⟨52, (.seq (.reg .false [⟨(.some 6), (.box 28 20 (.t 2)), .none⟩, ⟨(.some 8), (.alloc 94 3 (.agg [.nils, (.int .i64 0), (.int .i64 0)])), .none⟩]) (.seq (.seq (.reg .false [⟨(.some 9), (.mov (.c (.int .i64 0))), .none⟩]) (.block 0 (.loop (.seq (.seq (.reg .false [⟨(.some 10), (.mov (.t 9)), .none⟩, ⟨(.some 11), (.bin .lss (.t 10) (.c (.int .i64 2))), .none⟩]) (.cond (.t 11) .skip (.exit 0))) (.seq (.block 1 (.seq (.reg .false [⟨(.some 14), (.mov (.t 0)), .none⟩, ⟨(.some 15), (.mov (.t 1)), .none⟩, ⟨(.some 16), (.mov (.t 9)), .none⟩, ⟨(.some 17), (.bin .add (.t 15) (.t 16)), .none⟩, ⟨(.some 18), (.call (.c (.fn 105 [])) []), .none⟩, ⟨(.some 19), (.call (.c (.fn 103 [])) [(.t 14), (.t 17), (.c (.int .i64 1)), (.t 18)]), .none⟩, ⟨(.some 20), (.not (.t 19)), .none⟩]) (.cond (.t 20) (.seq (.reg .false [⟨(.some 21), (.mov (.t 1)), .none⟩, ⟨(.some 22), (.mov (.t 9)), .none⟩, ⟨(.some 23), (.bin .add (.t 21) (.t 22)), .none⟩, ⟨(.some 24), (.build [.nils, (.int .i64 0), (.int .i64 0)] [(0, (1, (.c .nils))), (1, (1, (.t 23))), (2, (1, (.c (.int .i64 1))))]), .none⟩, ⟨.none, (.store 3 (.t 8) (.t 24)), .none⟩]) .ret) .skip))) (.reg .false [⟨(.some 12), (.mov (.t 9)), .none⟩, ⟨(.some 13), (.bin .add (.t 12) (.c (.int .i64 1))), .none⟩, ⟨(.some 9), (.mov (.t 13)), .none⟩])))))) (.seq (.seq (.reg .false [⟨(.some 25), (.mov (.t 0)), .none⟩, ⟨(.some 26), (.mov (.t 1)), .none⟩, ⟨(.some 27), (.bin .add (.t 26) (.c (.int .i64 2))), .none⟩, ⟨(.some 28), (.mov (.t 3)), .none⟩, ⟨(.some 29), (.call (.c (.fn 86 [])) [(.t 25), (.t 27), (.t 28)]), .none⟩, ⟨(.some 30), (.not (.t 29)), .none⟩]) (.cond (.t 30) (.seq (.reg .false [⟨(.some 31), (.mov (.t 1)), .none⟩, ⟨(.some 32), (.bin .add (.t 31) (.c (.int .i64 2))), .none⟩, ⟨(.some 33), (.build [.nils, (.int .i64 0), (.int .i64 0)] [(0, (1, (.c .nils))), (1, (1, (.t 32))), (2, (1, (.c (.int .i64 1))))]), .none⟩, ⟨.none, (.store 3 (.t 8) (.t 33)), .none⟩]) .ret) .skip)) (.seq (.reg .false [⟨(.some 34), (.mov (.t 0)), .none⟩, ⟨(.some 35), (.mov (.t 1)), .none⟩, ⟨(.some 36), (.idxA 4 (.t 34) (.t 35)), .none⟩, ⟨(.some 37), (.fldA .false 2 1 (.t 36)), .none⟩, ⟨(.some 38), (.load .false 1 (.t 37)), .none⟩, ⟨(.some 39), (.fldA .false 18 1 (.t 6)), .none⟩, ⟨.none, (.store 1 (.t 39) (.t 38)), .none⟩]) (.seq (.reg .false [⟨(.some 40), (.mov (.t 0)), .none⟩, ⟨(.some 41), (.mov (.t 1)), .none⟩, ⟨(.some 42), (.bin .add (.t 41) (.c (.int .i64 1))), .none⟩, ⟨(.some 43), (.idxA 4 (.t 40) (.t 42)), .none⟩, ⟨(.some 44), (.fldA .false 2 1 (.t 43)), .none⟩, ⟨(.some 45), (.load .false 1 (.t 44)), .none⟩, ⟨(.some 46), (.fldA .false 19 1 (.t 6)), .none⟩, ⟨.none, (.store 1 (.t 46) (.t 45)), .none⟩]) (.seq (.reg .false [⟨(.some 47), (.load .true 20 (.t 6)), .none⟩, ⟨(.some 48), (.bslice 28 20 [(.t 47)]), .none⟩, ⟨(.some 49), (.mov (.t 1)), .none⟩, ⟨(.some 50), (.bin .add (.t 49) (.c (.int .i64 3))), .none⟩, ⟨(.some 51), (.build [.nils, (.int .i64 0), (.int .i64 0)] [(0, (1, (.t 48))), (1, (1, (.t 50))), (2, (1, (.c (.int .i64 0))))]), .none⟩, ⟨.none, (.store 3 (.t 8) (.t 51)), .none⟩]) .ret)))))), [(.cell .true 3 (.t 8))]⟩
theorem e99 : cfn Try.prog Try.f99 = some c99 := by kernel_rfl
theorem k99 : callable Try.prog 99 = true := by kernel_rfl
def c101 : VFn := ⟨41, (.seq (.reg .false [⟨(.some 6), (.mov (.c (.int .u8 0))), .none⟩]) (.seq (.reg .false [⟨(.some 10), (.call (.c (.fn 108 [])) []), .none⟩, ⟨(.some 7), (.mov (.t 10)), .none⟩]) (.seq (.seq (.reg .false [⟨(.some 8), (.mov (.c (.int .i64 0))), .none⟩]) (.block 0 (.loop (.seq (.seq (.reg .false [⟨(.some 11), (.mov (.t 8)), .none⟩, ⟨(.some 12), (.mov (.t 7)), .none⟩, ⟨(.some 13), (.len .true (.t 12)), .none⟩, ⟨(.some 14), (.bin .lss (.t 11) (.t 13)), .none⟩]) (.cond (.t 14) .skip (.exit 0))) (.seq (.block 1 (.seq (.seq (.reg .false [⟨(.some 17), (.mov (.t 0)), .none⟩, ⟨(.some 18), (.mov (.t 1)), .none⟩, ⟨(.some 19), (.mov (.t 7)), .none⟩, ⟨(.some 20), (.mov (.t 8)), .none⟩, ⟨(.some 21), (.idxS (.t 19) (.t 20)), .none⟩, ⟨(.some 22), (.convI .i32 (.t 21)), .none⟩, ⟨(.some 23), (.call (.c (.fn 86 [])) [(.t 17), (.t 18), (.t 22)]), .none⟩, ⟨(.some 24), (.not (.t 23)), .none⟩]) (.cond (.t 24) (.exit 1) .skip)) (.seq (.seq (.reg .false [⟨(.some 9), (.mov (.c (.int .i64 0))), .none⟩]) (.block 2 (.loop (.seq (.seq (.reg .false [⟨(.some 25), (.mov (.t 9)), .none⟩, ⟨(.some 26), (.mov (.t 2)), .none⟩, ⟨(.some 27), (.len .true (.t 26)), .none⟩, ⟨(.some 28), (.bin .lss (.t 25) (.t 27)), .none⟩]) (.cond (.t 28) .skip (.exit 2))) (.seq (.block 3 (.seq (.reg .true [⟨(.some 31), (.mov (.t 2)), .none⟩, ⟨(.some 32), (.mov (.t 9)), .none⟩, ⟨(.some 33), (.idxS (.t 31) (.t 32)), .none⟩, ⟨(.some 34), (.mov (.t 7)), .none⟩, ⟨(.some 35), (.mov (.t 8)), .none⟩, ⟨(.some 36), (.idxS (.t 34) (.t 35)), .none⟩, ⟨(.some 37), (.bin .eql (.t 33) (.t 36)), .none⟩]) (.cond (.t 37) (.seq (.reg .false [⟨(.some 6), (.mov (.c (.int .u8 0))), .none⟩]) .ret) .skip))) (.reg .false [⟨(.some 29), (.mov (.t 9)), .none⟩, ⟨(.some 30), (.bin .add (.t 29) (.c (.int .i64 1))), .none⟩, ⟨(.some 9), (.mov (.t 30)), .none⟩])))))) (.seq (.reg .false [⟨(.some 38), (.mov (.t 7)), .none⟩, ⟨(.some 39), (.mov (.t 8)), .none⟩, ⟨(.some 40), (.idxS (.t 38) (.t 39)), .none⟩, ⟨(.some 6), (.mov (.t 40)), .none⟩]) .ret)))) (.reg .false [⟨(.some 15), (.mov (.t 8)), .none⟩, ⟨(.some 16), (.bin .add (.t 15) (.c (.int .i64 1))), .none⟩, ⟨(.some 8), (.mov (.t 16)), .none⟩])))))) (.seq (.reg .false [⟨(.some 6), (.mov (.c (.int .u8 0))), .none⟩]) .ret)))), [(.tmp (.t 6))]⟩
theorem e101 : cfn Try.prog Try.f101 = some c101 := by kernel_rfl
theorem k101 : callable Try.prog 101 = true := by kernel_rfl
def c102 : VFn := ⟨26, (.seq (.reg .false [⟨(.some 2), (.mov (.c (.int .i64 0))), .none⟩, ⟨(.some 3), (.mov (.c (.int .i64 0))), .none⟩]) (.seq (.seq (.reg .false [⟨(.some 4), (.mov (.t 0)), .none⟩, ⟨(.some 5), (.bin .eql (.t 4) (.c (.int .u8 111))), .none⟩, ⟨(.some 6), (.mov (.t 5)), .none⟩, ⟨(.some 7), (.mov (.t 0)), (.some ((.t 6), .false))⟩, ⟨(.some 8), (.bin .eql (.t 7) (.c (.int .u8 119))), (.some ((.t 6), .false))⟩, ⟨(.some 9), (.pick (.t 6) (.c (.bool .true)) (.t 8)), .none⟩, ⟨(.some 10), (.mov (.t 9)), .none⟩, ⟨(.some 11), (.mov (.t 0)), (.some ((.t 10), .false))⟩, ⟨(.some 12), (.bin .eql (.t 11) (.c (.int .u8 104))), (.some ((.t 10), .false))⟩, ⟨(.some 13), (.pick (.t 10) (.c (.bool .true)) (.t 12)), .none⟩]) (.cond (.t 13) (.seq (.reg .false [⟨(.some 14), (.call (.c (.fn 105 [])) []), .none⟩, ⟨(.some 2), (.mov (.c (.int .i64 1))), .none⟩, ⟨(.some 3), (.mov (.t 14)), .none⟩]) .ret) .skip)) (.seq (.seq (.reg .false [⟨(.some 15), (.mov (.t 0)), .none⟩, ⟨(.some 16), (.bin .eql (.t 15) (.c (.int .u8 66))), .none⟩, ⟨(.some 17), (.mov (.t 16)), .none⟩, ⟨(.some 18), (.mov (.t 0)), (.some ((.t 17), .false))⟩, ⟨(.some 19), (.bin .eql (.t 18) (.c (.int .u8 65))), (.some ((.t 17), .false))⟩, ⟨(.some 20), (.pick (.t 17) (.c (.bool .true)) (.t 19)), .none⟩]) (.cond (.t 20) (.seq (.reg .false [⟨(.some 2), (.mov (.c (.int .i64 0))), .none⟩, ⟨(.some 3), (.mov (.c (.int .i64 4))), .none⟩]) .ret) .skip)) (.seq (.seq (.reg .false [⟨(.some 21), (.mov (.t 0)), .none⟩, ⟨(.some 22), (.bin .eql (.t 21) (.c (.int .u8 73))), .none⟩]) (.cond (.t 22) (.seq (.reg .false [⟨(.some 2), (.mov (.c (.int .i64 0))), .none⟩, ⟨(.some 3), (.mov (.c (.int .i64 1))), .none⟩]) .ret) .skip)) (.seq (.seq (.reg .false [⟨(.some 23), (.mov (.t 0)), .none⟩, ⟨(.some 24), (.bin .eql (.t 23) (.c (.int .u8 99))), .none⟩]) (.cond (.t 24) (.seq (.reg .false [⟨(.some 2), (.mov (.c (.int .i64 0))), .none⟩, ⟨(.some 3), (.mov (.c (.int .i64 3))), .none⟩]) .ret) .skip)) (.seq (.reg .false [⟨(.some 25), (.call (.c (.fn 105 [])) []), .none⟩, ⟨(.some 2), (.mov (.c (.int .i64 0))), .none⟩, ⟨(.some 3), (.mov (.t 25)), .none⟩]) .ret)))))), [(.tmp (.t 2)), (.tmp (.t 3))]⟩
theorem e102 : cfn Try.prog Try.f102 = some c102 := by kernel_rfl
theorem k102 : callable Try.prog 102 = true := by kernel_rfl
def c103 : VFn := ⟨39, (.seq (.reg .false [⟨(.some 8), (.mov (.c (.bool .false))), .none⟩]) (.seq (.reg .false [⟨(.some 9), (.mov (.t 1)), .none⟩, ⟨(.some 10), (.mov (.t 0)), .none⟩, ⟨(.some 11), (.len .false (.t 10)), .none⟩, ⟨(.some 12), (.bin .lss (.t 9) (.t 11)), .none⟩, ⟨(.some 13), (.mov (.t 12)), .none⟩, ⟨(.some 14), (.mov (.t 0)), (.some ((.t 13), .true))⟩, ⟨(.some 15), (.mov (.t 1)), (.some ((.t 13), .true))⟩, ⟨(.some 16), (.idxA 4 (.t 14) (.t 15)), (.some ((.t 13), .true))⟩, ⟨(.some 17), (.fldA .false 0 1 (.t 16)), (.some ((.t 13), .true))⟩, ⟨(.some 18), (.load .false 1 (.t 17)), (.some ((.t 13), .true))⟩, ⟨(.some 19), (.bin .eql (.t 18) (.c (.int .i64 2))), (.some ((.t 13), .true))⟩, ⟨(.some 20), (.pick (.t 13) (.t 19) (.c (.bool .false))), .none⟩, ⟨(.some 21), (.mov (.t 20)), .none⟩, ⟨(.some 22), (.mov (.t 0)), (.some ((.t 21), .true))⟩, ⟨(.some 23), (.mov (.t 1)), (.some ((.t 21), .true))⟩, ⟨(.some 24), (.idxA 4 (.t 22) (.t 23)), (.some ((.t 21), .true))⟩, ⟨(.some 25), (.fldA .false 2 1 (.t 24)), (.some ((.t 21), .true))⟩, ⟨(.some 26), (.load .false 1 (.t 25)), (.some ((.t 21), .true))⟩, ⟨(.some 27), (.mov (.t 2)), (.some ((.t 21), .true))⟩, ⟨(.some 28), (.bin .geq (.t 26) (.t 27)), (.some ((.t 21), .true))⟩, ⟨(.some 29), (.pick (.t 21) (.t 28) (.c (.bool .false))), .none⟩, ⟨(.some 30), (.mov (.t 29)), .none⟩, ⟨(.some 31), (.mov (.t 0)), (.some ((.t 30), .true))⟩, ⟨(.some 32), (.mov (.t 1)), (.some ((.t 30), .true))⟩, ⟨(.some 33), (.idxA 4 (.t 31) (.t 32)), (.some ((.t 30), .true))⟩, ⟨(.some 34), (.fldA .false 2 1 (.t 33)), (.some ((.t 30), .true))⟩, ⟨(.some 35), (.load .false 1 (.t 34)), (.some ((.t 30), .true))⟩, ⟨(.some 36), (.mov (.t 3)), (.some ((.t 30), .true))⟩, ⟨(.some 37), (.bin .leq (.t 35) (.t 36)), (.some ((.t 30), .true))⟩, ⟨(.some 38), (.pick (.t 30) (.t 37) (.c (.bool .false))), .none⟩, ⟨(.some 8), (.mov (.t 38)), .none⟩]) .ret)), [(.tmp (.t 8))]⟩
theorem e103 : cfn Try.prog Try.f103 = some c103 := by kernel_rfl
theorem k103 : callable Try.prog 103 = true := by kernel_rfl
def c104 : VFn := ⟨57, (.seq (.reg .false [⟨(.some 3), (.box 25 12 (.t 0)), .none⟩, ⟨(.some 6), (.alloc 25 12 (.agg [(.int .i64 0), (.int .i64 0), (.int .i64 0), (.int .i64 0), (.int .i64 0), (.int .i64 0), (.int .i64 0), (.int .i64 0), (.int .i64 0), (.int .i64 0), (.int .i64 0), (.int .i64 0)])), .none⟩]) (.seq (.seq (.reg .false [⟨(.some 7), (.mov (.t 1)), .none⟩]) (.block 0 (.seq (.reg .false [⟨(.some 9), (.bin .eql (.t 7) (.c (.int .u8 109))), .none⟩, ⟨(.some 8), (.mov (.t 9)), .none⟩]) (.cond (.t 8) (.reg .false [⟨(.some 10), (.mov (.t 2)), .none⟩, ⟨(.some 11), (.fldA .false 0 1 (.t 3)), .none⟩, ⟨.none, (.store 1 (.t 11) (.t 10)), .none⟩]) (.seq (.reg .false [⟨(.some 13), (.bin .eql (.t 7) (.c (.int .u8 110))), .none⟩, ⟨(.some 12), (.mov (.t 13)), .none⟩]) (.cond (.t 12) (.reg .false [⟨(.some 14), (.mov (.t 2)), .none⟩, ⟨(.some 15), (.fldA .false 1 1 (.t 3)), .none⟩, ⟨.none, (.store 1 (.t 15) (.t 14)), .none⟩]) (.seq (.reg .false [⟨(.some 17), (.bin .eql (.t 7) (.c (.int .u8 112))), .none⟩, ⟨(.some 16), (.mov (.t 17)), .none⟩]) (.cond (.t 16) (.reg .false [⟨(.some 18), (.mov (.t 2)), .none⟩, ⟨(.some 19), (.fldA .false 2 1 (.t 3)), .none⟩, ⟨.none, (.store 1 (.t 19) (.t 18)), .none⟩]) (.seq (.reg .false [⟨(.some 21), (.bin .eql (.t 7) (.c (.int .u8 113))), .none⟩, ⟨(.some 20), (.mov (.t 21)), .none⟩]) (.cond (.t 20) (.reg .false [⟨(.some 22), (.mov (.t 2)), .none⟩, ⟨(.some 23), (.fldA .false 3 1 (.t 3)), .none⟩, ⟨.none, (.store 1 (.t 23) (.t 22)), .none⟩]) (.seq (.reg .false [⟨(.some 25), (.bin .eql (.t 7) (.c (.int .u8 105))), .none⟩, ⟨(.some 24), (.mov (.t 25)), .none⟩]) (.cond (.t 24) (.reg .false [⟨(.some 26), (.mov (.t 2)), .none⟩, ⟨(.some 27), (.fldA .false 4 1 (.t 3)), .none⟩, ⟨.none, (.store 1 (.t 27) (.t 26)), .none⟩]) (.seq (.reg .false [⟨(.some 29), (.bin .eql (.t 7) (.c (.int .u8 111))), .none⟩, ⟨(.some 28), (.mov (.t 29)), .none⟩]) (.cond (.t 28) (.reg .false [⟨(.some 30), (.mov (.t 2)), .none⟩, ⟨(.some 31), (.fldA .false 5 1 (.t 3)), .none⟩, ⟨.none, (.store 1 (.t 31) (.t 30)), .none⟩]) (.seq (.reg .false [⟨(.some 33), (.bin .eql (.t 7) (.c (.int .u8 119))), .none⟩, ⟨(.some 32), (.mov (.t 33)), .none⟩]) (.cond (.t 32) (.reg .false [⟨(.some 34), (.mov (.t 2)), .none⟩, ⟨(.some 35), (.fldA .false 6 1 (.t 3)), .none⟩, ⟨.none, (.store 1 (.t 35) (.t 34)), .none⟩]) (.seq (.reg .false [⟨(.some 37), (.bin .eql (.t 7) (.c (.int .u8 104))), .none⟩, ⟨(.some 36), (.mov (.t 37)), .none⟩]) (.cond (.t 36) (.reg .false [⟨(.some 38), (.mov (.t 2)), .none⟩, ⟨(.some 39), (.fldA .false 7 1 (.t 3)), .none⟩, ⟨.none, (.store 1 (.t 39) (.t 38)), .none⟩]) (.seq (.reg .false [⟨(.some 41), (.bin .eql (.t 7) (.c (.int .u8 66))), .none⟩, ⟨(.some 40), (.mov (.t 41)), .none⟩]) (.cond (.t 40) (.reg .false [⟨(.some 42), (.mov (.t 2)), .none⟩, ⟨(.some 43), (.fldA .false 8 1 (.t 3)), .none⟩, ⟨.none, (.store 1 (.t 43) (.t 42)), .none⟩]) (.seq (.reg .false [⟨(.some 45), (.bin .eql (.t 7) (.c (.int .u8 65))), .none⟩, ⟨(.some 44), (.mov (.t 45)), .none⟩]) (.cond (.t 44) (.reg .false [⟨(.some 46), (.mov (.t 2)), .none⟩, ⟨(.some 47), (.fldA .false 9 1 (.t 3)), .none⟩, ⟨.none, (.store 1 (.t 47) (.t 46)), .none⟩]) (.seq (.reg .false [⟨(.some 49), (.bin .eql (.t 7) (.c (.int .u8 73))), .none⟩, ⟨(.some 48), (.mov (.t 49)), .none⟩]) (.cond (.t 48) (.reg .false [⟨(.some 50), (.mov (.t 2)), .none⟩, ⟨(.some 51), (.fldA .false 10 1 (.t 3)), .none⟩, ⟨.none, (.store 1 (.t 51) (.t 50)), .none⟩]) (.seq (.reg .false [⟨(.some 53), (.bin .eql (.t 7) (.c (.int .u8 99))), .none⟩, ⟨(.some 52), (.mov (.t 53)), .none⟩]) (.cond (.t 52) (.reg .false [⟨(.some 54), (.mov (.t 2)), .none⟩, ⟨(.some 55), (.fldA .false 11 1 (.t 3)), .none⟩, ⟨.none, (.store 1 (.t 55) (.t 54)), .none⟩]) .skip)))))))))))))))))))))))))) (.seq (.reg .false [⟨(.some 56), (.load .true 12 (.t 3)), .none⟩, ⟨.none, (.store 12 (.t 6) (.t 56)), .none⟩]) .ret))), [(.cell .true 12 (.t 6))]⟩
theorem e104 : cfn Try.prog Try.f104 = some c104 := by kernel_rfl
theorem k104 : callable Try.prog 104 = true := by kernel_rfl
def c105 : VFn := ⟨1, (.seq (.reg .false [⟨(.some 0), (.mov (.c (.int .i64 0))), .none⟩]) (.seq (.reg .false [⟨(.some 0), (.mov (.c (.int .i64 1099511627776))), .none⟩]) .ret)), [(.tmp (.t 0))]⟩
theorem e105 : cfn Try.prog Try.f105 = some c105 := by kernel_rfl
theorem k105 : callable Try.prog 105 = true := by kernel_rfl
def c108 : VFn := ⟨1, (.seq (.reg .false [⟨(.some 0), (.mov (.c (.str []))), .none⟩]) (.seq (.reg .false [⟨(.some 0), (.mov (.c (.str [109, 110, 112, 113, 105, 111, 119, 104, 66, 65, 73, 99]))), .none⟩]) .ret)), [(.tmp (.t 0))]⟩
theorem e108 : cfn Try.prog Try.f108 = some c108 := by kernel_rfl
theorem k108 : callable Try.prog 108 = true := by kernel_rfl
end Go.Vc
namespace Go.Vc
open Go.Proofs
theorem CodeOk.nil : CodeOk Try.prog (fun f => getP none f (.e : Tr (Option VFn))) := fun g vf h => by simp only [getP_e] at h; cases h
theorem CodeOk.add {t : Tr (Option VFn)} (h : CodeOk Try.prog (fun f => getP none f t)) {g : Nat} {vf : VFn} {fn : Func} (h1 : okFn vf = true) (h2 : callable Try.prog g = true) (h3 : Try.prog.funcs[g]? = some fn) (h4 : cfn Try.prog fn = some vf) :
    CodeOk Try.prog (fun f => getP none f (setP none (some vf) g t)) := fun g' vf' h' => by
  simp only [getP_set] at h'
  split at h'
  · rename_i e
    subst e
    simp only [Option.some.injEq] at h'
    subst h'
    exact ⟨h2, h1, fn, h3, h4⟩
  · exact h g' vf' h'
theorem ok9 : okFn c9 = true := by kernel_rfl
theorem ok11 : okFn c11 = true := by kernel_rfl
theorem ok13 : okFn c13 = true := by kernel_rfl
theorem ok15 : okFn c15 = true := by kernel_rfl
theorem ok30 : okFn c30 = true := by kernel_rfl
theorem ok31 : okFn c31 = true := by kernel_rfl
theorem ok32 : okFn c32 = true := by kernel_rfl
theorem ok33 : okFn c33 = true := by kernel_rfl
theorem ok35 : okFn c35 = true := by kernel_rfl
theorem ok43 : okFn c43 = true := by kernel_rfl
theorem ok59 : okFn c59 = true := by kernel_rfl
theorem ok60 : okFn c60 = true := by kernel_rfl
theorem ok61 : okFn c61 = true := by kernel_rfl
theorem ok62 : okFn c62 = true := by kernel_rfl
theorem ok63 : okFn c63 = true := by kernel_rfl
theorem ok64 : okFn c64 = true := by kernel_rfl
theorem ok65 : okFn c65 = true := by kernel_rfl
theorem ok83 : okFn c83 = true := by kernel_rfl
theorem ok84 : okFn c84 = true := by kernel_rfl
theorem ok85 : okFn c85 = true := by kernel_rfl
theorem ok86 : okFn c86 = true := by kernel_rfl
theorem ok87 : okFn c87 = true := by kernel_rfl
theorem ok88 : okFn c88 = true := by kernel_rfl
theorem ok89 : okFn c89 = true := by kernel_rfl
theorem ok90 : okFn c90 = true := by kernel_rfl
theorem ok96 : okFn c96 = true := by kernel_rfl
theorem ok97 : okFn c97 = true := by kernel_rfl
theorem ok98 : okFn c98 = true := by kernel_rfl
theorem ok99 : okFn c99 = true := by kernel_rfl
theorem ok101 : okFn c101 = true := by kernel_rfl
theorem ok102 : okFn c102 = true := by kernel_rfl
theorem ok103 : okFn c103 = true := by kernel_rfl
theorem ok104 : okFn c104 = true := by kernel_rfl
theorem ok105 : okFn c105 = true := by kernel_rfl
theorem ok108 : okFn c108 = true := by kernel_rfl
def tabA : Tr (Option VFn) :=
  setP none (some c9) 9 (
  setP none (some c11) 11 (
  setP none (some c13) 13 (
  setP none (some c15) 15 (
  setP none (some c30) 30 (
  setP none (some c31) 31 (
  setP none (some c32) 32 (
  setP none (some c33) 33 (
  setP none (some c35) 35 (
  setP none (some c43) 43 (
  setP none (some c59) 59 (
  setP none (some c60) 60 (
  setP none (some c61) 61 (
  setP none (some c62) 62 (
  setP none (some c63) 63 (
  setP none (some c64) 64 (
  setP none (some c65) 65 (
  setP none (some c83) 83 (
  setP none (some c84) 84 (
  setP none (some c85) 85 (
  setP none (some c86) 86 (
  setP none (some c87) 87 (
  setP none (some c88) 88 (
  setP none (some c89) 89 (
  setP none (some c90) 90 (
  setP none (some c96) 96 (
  setP none (some c97) 97 (
  setP none (some c98) 98 (
  setP none (some c99) 99 (
  setP none (some c101) 101 (
  setP none (some c102) 102 (
  setP none (some c103) 103 (
  setP none (some c104) 104 (
  setP none (some c105) 105 (
  setP none (some c108) 108 (
  .e)))))))))))))))))))))))))))))))))))
theorem tabA_ok : CodeOk Try.prog (fun f => getP none f tabA) :=
  CodeOk.add (CodeOk.add (CodeOk.add (CodeOk.add (CodeOk.add (CodeOk.add (CodeOk.add (CodeOk.add (CodeOk.add (CodeOk.add (CodeOk.add (CodeOk.add (CodeOk.add (CodeOk.add (CodeOk.add (CodeOk.add (CodeOk.add (CodeOk.add (CodeOk.add (CodeOk.add (CodeOk.add (CodeOk.add (CodeOk.add (CodeOk.add (CodeOk.add (CodeOk.add (CodeOk.add (CodeOk.add (CodeOk.add (CodeOk.add (CodeOk.add (CodeOk.add (CodeOk.add (CodeOk.add (CodeOk.add (CodeOk.nil) ok108 k108 Try.func108 e108) ok105 k105 Try.func105 e105) ok104 k104 Try.func104 e104) ok103 k103 Try.func103 e103) ok102 k102 Try.func102 e102) ok101 k101 Try.func101 e101) ok99 k99 Try.func99 e99) ok98 k98 Try.func98 e98) ok97 k97 Try.func97 e97) ok96 k96 Try.func96 e96) ok90 k90 Try.func90 e90) ok89 k89 Try.func89 e89) ok88 k88 Try.func88 e88) ok87 k87 Try.func87 e87) ok86 k86 Try.func86 e86) ok85 k85 Try.func85 e85) ok84 k84 Try.func84 e84) ok83 k83 Try.func83 e83) ok65 k65 Try.func65 e65) ok64 k64 Try.func64 e64) ok63 k63 Try.func63 e63) ok62 k62 Try.func62 e62) ok61 k61 Try.func61 e61) ok60 k60 Try.func60 e60) ok59 k59 Try.func59 e59) ok43 k43 Try.func43 e43) ok35 k35 Try.func35 e35) ok33 k33 Try.func33 e33) ok32 k32 Try.func32 e32) ok31 k31 Try.func31 e31) ok30 k30 Try.func30 e30) ok15 k15 Try.func15 e15) ok13 k13 Try.func13 e13) ok11 k11 Try.func11 e11) ok9 k9 Try.func9 e9
end Go.Vc
namespace Go.Vc
open Go.Proofs
abbrev vI (n : Int) : V := .int .i64 n
theorem from_c (n a b : Int) : PFun Try.prog 67 [vI n, vI a, vI b] (.bool (decide (n ≥ a ∧ n ≤ b))) := fun σ => by
  refine Contract.of_runs Try.func67 e67 k67 (by simp [c67]) ?_
  (refine Runs.of_step Orc.nothing 300 ?_; simp -implicitDefEqProofs only [BB, effR_some, effD_some, Int.reduceEq, Int.reduceNe, Int.reduceLT, Int.reduceLE, Int.reduceGT, Int.reduceGE, Nat.reduceEqDiff, Nat.reduceAdd, Nat.reduceMul, Nat.reduceLeDiff, Nat.reduceSub, Nat.reduceLT, Nat.reduceBEq, ↓reduceIte, reduceCtorEq, ← decide_not, okind, vpre, vpure, intBin, intPre, strBin, strPre, popTo, argSlots, fldV, fldAV, subCells, idxVV, idxAAV, idxSV, sliceV, sliceSV, boundV, szIs, storeOp, storeS, setRowV, eff, extV, buildV, splice, eqSV, fitsL, eqCells, eqCell, minmaxV, capV, binBV, nilCheckV, bytesV, V.cells, V.stays, Orc.nothing, c67])
  constructor <;> intro h <;> exact RetV.same (by simp [h])
end Go.Vc
namespace Go.Vc
open Go.Proofs
/-- where the first one is, or -1 -/
def firstI (p : Int → Bool) : List Int → Int
  | [] => -1
  | x :: l => if p x then 0 else if firstI p l < 0 then -1 else firstI p l + 1
/-- so, behind some that are not -/
def firstAt (p : Int → Bool) (i : Nat) (l : List Int) : Int := if firstI p l < 0 then -1 else firstI p l + i
theorem firstI_ge (p : Int → Bool) : ∀ l, -1 ≤ firstI p l
  | [] => by simp [firstI]
  | x :: l => by
    have := firstI_ge p l
    simp only [firstI]
    split
    · omega
    · split <;> omega
theorem firstI_at (p : Int → Bool) (l : List Int) : firstI p l = firstAt p 0 l := by
  have := firstI_ge p l
  unfold firstAt
  split <;> omega
theorem indexFunc_c {σ : Store} {sv : V} {l : List Int} {f : FuncId} {caps : List V} {p : Int → Bool} (hr : Reads σ 1 false sv (l.map vI)) (hl : l.length ≤ 200000000000000)
    (hf : ∀ n ∈ l, Contract Try.prog f (vI n :: caps) σ fun r σ' => r = .bool (p n) ∧ σ' = σ) :
    Contract Try.prog 88 [sv, .fn f caps] σ fun r σ' => r = vI (firstI p l) ∧ σ' = σ := by
  have hlen : lenV false sv = some (vI (l.length : Int)) := by simpa using hr.1
  refine Contract.of_runs Try.func88 e88 k88 (by simp [c88]) ?_
  (refine Runs.of_step Orc.nothing 300 ?_; simp -implicitDefEqProofs only [BB, effR_some, effD_some, Int.reduceEq, Int.reduceNe, Int.reduceLT, Int.reduceLE, Int.reduceGT, Int.reduceGE, Nat.reduceEqDiff, Nat.reduceAdd, Nat.reduceMul, Nat.reduceLeDiff, Nat.reduceSub, Nat.reduceLT, Nat.reduceBEq, ↓reduceIte, reduceCtorEq, ← decide_not, okind, vpre, vpure, intBin, intPre, strBin, strPre, popTo, argSlots, fldV, fldAV, subCells, idxVV, idxAAV, idxSV, sliceV, sliceSV, boundV, szIs, storeOp, storeS, setRowV, eff, extV, buildV, splice, eqSV, fitsL, eqCells, eqCell, minmaxV, capV, binBV, nilCheckV, bytesV, V.cells, V.stays, Orc.nothing, c88, hlen])
  refine Runs.loop (fun m st => ∃ i : Nat, i ≤ l.length ∧ m = l.length - i ∧ firstI p l = firstAt p i (l.drop i) ∧ st.σ = σ ∧ st.s 0 = sv ∧ st.s 1 = .fn f caps ∧ st.s 7 = vI l.length ∧ st.s 8 = vI i) l.length ?_ ?_
  · exact ⟨0, by omega, by omega, firstI_at p l, rfl, rfl, rfl, rfl, rfl⟩
  · rintro m ⟨s, σ'⟩ ⟨i, hi, rfl, hp, hσ, h0, h1, h7, h8⟩
    simp only at h0 h1 h7 h8 hσ
    subst hσ
    (refine Runs.of_step Orc.nothing 300 ?_; simp -implicitDefEqProofs only [BB, effR_some, effD_some, Int.reduceEq, Int.reduceNe, Int.reduceLT, Int.reduceLE, Int.reduceGT, Int.reduceGE, Nat.reduceEqDiff, Nat.reduceAdd, Nat.reduceMul, Nat.reduceLeDiff, Nat.reduceSub, Nat.reduceLT, Nat.reduceBEq, ↓reduceIte, reduceCtorEq, ← decide_not, okind, vpre, vpure, intBin, intPre, strBin, strPre, popTo, argSlots, fldV, fldAV, subCells, idxVV, idxAAV, idxSV, sliceV, sliceSV, boundV, szIs, storeOp, storeS, setRowV, eff, extV, buildV, splice, eqSV, fitsL, eqCells, eqCell, minmaxV, capV, binBV, nilCheckV, bytesV, V.cells, V.stays, Orc.nothing, h0, h1, h7, h8])
    constructor
    · intro hlt
      have hlt' : i < l.length := by omega
      have hd : l.drop i = l[i] :: l.drop (i + 1) := List.drop_eq_getElem_cons hlt'
      obtain ⟨pp, e1, e2⟩ := hr.2 i (vI l[i]) (by simp [hlt'])
      simp -implicitDefEqProofs only [BB, effR_some, effD_some, Int.reduceEq, Int.reduceNe, Int.reduceLT, Int.reduceLE, Int.reduceGT, Int.reduceGE, Nat.reduceEqDiff, Nat.reduceAdd, Nat.reduceMul, Nat.reduceLeDiff, Nat.reduceSub, Nat.reduceLT, Nat.reduceBEq, ↓reduceIte, reduceCtorEq, ← decide_not, okind, vpre, vpure, intBin, intPre, strBin, strPre, popTo, argSlots, fldV, fldAV, subCells, idxVV, idxAAV, idxSV, sliceV, sliceSV, boundV, szIs, storeOp, storeS, setRowV, eff, extV, buildV, splice, eqSV, fitsL, eqCells, eqCell, minmaxV, capV, binBV, nilCheckV, bytesV, V.cells, V.stays, e1, e2, s_r_stop]
      refine Runs.pcall rfl rfl rfl (hf l[i] (List.getElem_mem hlt')) ?_
      (refine Runs.of_step Orc.nothing 300 ?_; simp -implicitDefEqProofs only [BB, effR_some, effD_some, Int.reduceEq, Int.reduceNe, Int.reduceLT, Int.reduceLE, Int.reduceGT, Int.reduceGE, Nat.reduceEqDiff, Nat.reduceAdd, Nat.reduceMul, Nat.reduceLeDiff, Nat.reduceSub, Nat.reduceLT, Nat.reduceBEq, ↓reduceIte, reduceCtorEq, ← decide_not, okind, vpre, vpure, intBin, intPre, strBin, strPre, popTo, argSlots, fldV, fldAV, subCells, idxVV, idxAAV, idxSV, sliceV, sliceSV, boundV, szIs, storeOp, storeS, setRowV, eff, extV, buildV, splice, eqSV, fitsL, eqCells, eqCell, minmaxV, capV, binBV, nilCheckV, bytesV, V.cells, V.stays, Orc.nothing, h0, h1, h7, h8])
      cases hpx : p l[i]
      · simp -implicitDefEqProofs only [BB, effR_some, effD_some, Int.reduceEq, Int.reduceNe, Int.reduceLT, Int.reduceLE, Int.reduceGT, Int.reduceGE, Nat.reduceEqDiff, Nat.reduceAdd, Nat.reduceMul, Nat.reduceLeDiff, Nat.reduceSub, Nat.reduceLT, Nat.reduceBEq, ↓reduceIte, reduceCtorEq, ← decide_not, okind, vpre, vpure, intBin, intPre, strBin, strPre, popTo, argSlots, fldV, fldAV, subCells, idxVV, idxAAV, idxSV, sliceV, sliceSV, boundV, szIs, storeOp, storeS, setRowV, eff, extV, buildV, splice, eqSV, fitsL, eqCells, eqCell, minmaxV, capV, binBV, nilCheckV, bytesV, V.cells, V.stays, h8]
        refine ⟨inR_i64 (by omega) (by omega), _, ?_, i + 1, by omega, rfl, ?_, h0, h1, h7, ?_⟩
        · omega
        · rw [hp, hd]
          simp only [firstAt, firstI, hpx, Bool.false_eq_true, if_false]
          have := firstI_ge p (l.drop (i + 1))
          repeat' split
          all_goals omega
        · simp
      · simp -implicitDefEqProofs only [BB, effR_some, effD_some, Int.reduceEq, Int.reduceNe, Int.reduceLT, Int.reduceLE, Int.reduceGT, Int.reduceGE, Nat.reduceEqDiff, Nat.reduceAdd, Nat.reduceMul, Nat.reduceLeDiff, Nat.reduceSub, Nat.reduceLT, Nat.reduceBEq, ↓reduceIte, reduceCtorEq, ← decide_not, okind, vpre, vpure, intBin, intPre, strBin, strPre, popTo, argSlots, fldV, fldAV, subCells, idxVV, idxAAV, idxSV, sliceV, sliceSV, boundV, szIs, storeOp, storeS, setRowV, eff, extV, buildV, splice, eqSV, fitsL, eqCells, eqCell, minmaxV, capV, binBV, nilCheckV, bytesV, V.cells, V.stays]
        refine RetV.same ?_
        rw [hp, hd]
        simp [firstAt, firstI, hpx]
    · intro hge
      have : i = l.length := by omega
      refine RetV.same ?_
      rw [hp, this, List.drop_length]
      rfl
end Go.Vc
namespace Go.Vc
open Go.Proofs
structure Sty where
  (top bottom padTop padBottom inset orphans widows head before after inside clear : Int)
deriving DecidableEq
def Sty.cells (s : Sty) : List V := [vI s.top, vI s.bottom, vI s.padTop, vI s.padBottom, vI s.inset, vI s.orphans, vI s.widows, vI s.head, vI s.before, vI s.after, vI s.inside, vI s.clear]
structure Nd where
  (kind size : Int)
  (st : Sty)
  (line space : Int)
  (words : List Int)
  (side w h : Int)
deriving DecidableEq
def encI (l : List Int) : V := .sl 1 (l.map vI)
def Nd.cells (x : Nd) : List V := [vI x.kind, vI x.size, vI x.st.top, vI x.st.bottom, vI x.st.padTop, vI x.st.padBottom, vI x.st.inset, vI x.st.orphans, vI x.st.widows, vI x.st.head, vI x.st.before, vI x.st.after, vI x.st.inside, vI x.st.clear,
  vI x.line, vI x.space, encI x.words, vI x.side, vI x.w, vI x.h]
def encN (x : Nd) : V := .agg x.cells
def mx : Int := 1099511627776
def isFrom (n a b : Int) : Bool := decide (n ≥ a ∧ n ≤ b)
def Sty.ok (s : Sty) : Bool := isFrom s.top 0 mx && isFrom s.bottom 0 mx && isFrom s.padTop 0 mx && isFrom s.padBottom 0 mx && isFrom s.inset 0 mx && isFrom s.orphans 1 mx && isFrom s.widows 1 mx && isFrom s.head 0 mx &&
  isFrom s.before 0 4 && isFrom s.after 0 4 && isFrom s.inside 0 1 && isFrom s.clear 0 3
/-- what 'from' answers -/
def o1 (f : FuncId) (args : List V) : Option V := if f = 67 then (match args with
  | [.int .i64 n, .int .i64 a, .int .i64 b] => some (.bool (decide (n ≥ a ∧ n ≤ b)))
  | _ => none) else none
def O1 : Orc Try.prog where
  get f args _ := o1 f args
  ok f args σ v h := by
    unfold o1 at h
    split at h
    · rename_i hf
      subst hf
      split at h
      · simp only [Option.some.injEq] at h
        subst h
        exact from_c _ _ _ σ
      · cases h
    · cases h
theorem O1_67 (n a b : Int) (σ : Store) : O1.get 67 [.int .i64 n, .int .i64 a, .int .i64 b] σ = some (.bool (decide (n ≥ a ∧ n ≤ b))) := rfl
set_option maxRecDepth 100000 in
theorem block_c (s : Sty) : PFun Try.prog 66 [.agg s.cells] (.bool s.ok) := fun σ => by
  refine Contract.of_runs Try.func66 e66 k66 (by simp [c66]) ?_
  refine Runs.mix 4 ?_
  (refine Runs.of_step O1 300 ?_; simp -implicitDefEqProofs only [BB, effR_some, effD_some, Int.reduceEq, Int.reduceNe, Int.reduceLT, Int.reduceLE, Int.reduceGT, Int.reduceGE, Nat.reduceEqDiff, Nat.reduceAdd, Nat.reduceMul, Nat.reduceLeDiff, Nat.reduceSub, Nat.reduceLT, Nat.reduceBEq, ↓reduceIte, reduceCtorEq, ← decide_not, okind, vpre, vpure, intBin, intPre, strBin, strPre, popTo, argSlots, fldV, fldAV, subCells, idxVV, idxAAV, idxSV, sliceV, sliceSV, boundV, szIs, storeOp, storeS, setRowV, eff, extV, buildV, splice, eqSV, fitsL, eqCells, eqCell, minmaxV, capV, binBV, nilCheckV, bytesV, V.cells, V.stays, c66, Sty.cells, O1_67])
  intro id hid
  repeat' (first
    | with_reducible refine And.intro (fun h => ?_) (fun h => ?_)
    | with_reducible refine RetV.pure ((SubStore.refl σ).upd hid) ?_)
  all_goals simp -implicitDefEqProofs only [BB, effR_some, effD_some, Int.reduceEq, Int.reduceNe, Int.reduceLT, Int.reduceLE, Int.reduceGT, Int.reduceGE, Nat.reduceEqDiff, Nat.reduceAdd, Nat.reduceMul, Nat.reduceLeDiff, Nat.reduceSub, Nat.reduceLT, Nat.reduceBEq, ↓reduceIte, reduceCtorEq, ← decide_not, okind, vpre, vpure, intBin, intPre, strBin, strPre, popTo, argSlots, fldV, fldAV, subCells, idxVV, idxAAV, idxSV, sliceV, sliceSV, boundV, szIs, storeOp, storeS, setRowV, eff, extV, buildV, splice, eqSV, fitsL, eqCells, eqCell, minmaxV, capV, binBV, nilCheckV, bytesV, V.cells, V.stays, Sty.ok, isFrom, mx, V.bool.injEq]
  all_goals (rw [Bool.eq_iff_iff]; simp [*])
end Go.Vc
namespace Go.Vc
open Go.Proofs
def Sty.zero : Sty := ⟨0, 0, 0, 0, 0, 0, 0, 0, 0, 0, 0, 0⟩
def Nd.ok (x : Nd) : Bool :=
  if x.kind = 1 then x.st.ok && decide (x.line = 0) && decide (x.space = 0) && decide (x.words.length = 0) && decide (x.side = 0) && decide (x.w = 0) && decide (x.h = 0)
  else if x.st ≠ Sty.zero then false
  else if x.kind = 2 then x.words.all (isFrom · 1 mx) && decide (0 < x.words.length) && isFrom x.line 1 mx && isFrom x.space 0 mx && decide (x.side = 0) && decide (x.w = 0) && decide (x.h = 0)
  else decide (x.line = 0) && decide (x.space = 0) && decide (x.words.length = 0) && isFrom x.w 1 mx && isFrom x.h 1 mx &&
    (decide (x.kind = 3) && decide (x.side = 0) || decide (x.kind = 4) && isFrom x.side 1 2)
/-- and what 'block' answers -/
def o4 (f : FuncId) (args : List V) : Option V := if f = 67 then (match args with
  | [.int .i64 n, .int .i64 a, .int .i64 b] => some (.bool (decide (n ≥ a ∧ n ≤ b)))
  | _ => none) else if f = 66 then (match args with
  | [.agg [.int .i64 a, .int .i64 b, .int .i64 c, .int .i64 d, .int .i64 e, .int .i64 f, .int .i64 g, .int .i64 h, .int .i64 i, .int .i64 j, .int .i64 k, .int .i64 l]] => some (.bool (Sty.ok ⟨a, b, c, d, e, f, g, h, i, j, k, l⟩))
  | _ => none) else none
def O4 : Orc Try.prog where
  get f args _ := o4 f args
  ok f args σ v h := by
    unfold o4 at h
    split at h
    · rename_i hf
      subst hf
      split at h
      · simp only [Option.some.injEq] at h
        subst h
        exact from_c _ _ _ σ
      · cases h
    · split at h
      · rename_i hf
        subst hf
        split at h
        · simp only [Option.some.injEq] at h
          subst h
          exact block_c ⟨_, _, _, _, _, _, _, _, _, _, _, _⟩ σ
        · cases h
      · cases h
theorem O4_67 (n a b : Int) (σ : Store) : O4.get 67 [.int .i64 n, .int .i64 a, .int .i64 b] σ = some (.bool (decide (n ≥ a ∧ n ≤ b))) := rfl
theorem O4_66 (a b c d e f g h i j k l : Int) (σ : Store) : O4.get 66 [.agg [.int .i64 a, .int .i64 b, .int .i64 c, .int .i64 d, .int .i64 e, .int .i64 f, .int .i64 g, .int .i64 h, .int .i64 i, .int .i64 j, .int .i64 k, .int .i64 l]] σ =
  some (.bool (Sty.ok ⟨a, b, c, d, e, f, g, h, i, j, k, l⟩)) := rfl
theorem lenV_encI (l : List Int) : lenV false (encI l) = some (.int .i64 l.length) := by simp [encI, lenV]
theorem dec_true (b : Bool) : V.bool b = V.bool (decide (b = true)) := by cases b <;> rfl
theorem all_take (p : Int → Bool) (l : List Int) (i : Nat) (h : i < l.length) : (l.take (i + 1)).all p = ((l.take i).all p && p l[i]) := by
  rw [List.take_succ_eq_append_getElem h, List.all_append]
  simp
theorem idxAV_encI {σ : Store} {l : List Int} {i : Nat} (h : i < l.length) : idxAV σ 1 (encI l) (.int .i64 i) = some (.rp (.int .i64 l[i])) := by
  simp [encI, idxAV, h]
set_option maxRecDepth 100000 in
theorem one_c (x : Nd) (hl : x.words.length ≤ 200000000000000) : PFun Try.prog 36 [encN x] (.bool x.ok) := fun σ => by
  refine Contract.of_runs Try.func36 e36 k36 (by simp [c36]) ?_
  refine Runs.mix 5 ?_
  (refine Runs.of_step O4 300 ?_; simp -implicitDefEqProofs only [BB, effR_some, effD_some, Int.reduceEq, Int.reduceNe, Int.reduceLT, Int.reduceLE, Int.reduceGT, Int.reduceGE, Nat.reduceEqDiff, Nat.reduceAdd, Nat.reduceMul, Nat.reduceLeDiff, Nat.reduceSub, Nat.reduceLT, Nat.reduceBEq, ↓reduceIte, reduceCtorEq, ← decide_not, okind, vpre, vpure, intBin, intPre, strBin, strPre, popTo, argSlots, fldV, fldAV, subCells, idxVV, idxAAV, idxSV, sliceV, sliceSV, boundV, szIs, storeOp, storeS, setRowV, eff, extV, buildV, splice, eqSV, fitsL, eqCells, eqCell, minmaxV, capV, binBV, nilCheckV, bytesV, V.cells, V.stays, c36, encN, Nd.cells, O4_67, O4_66, cR_b, dec_true (Sty.ok _), lenV_encI])
  intro id hid
  have hsub := (SubStore.refl σ).upd hid (o := ⟨28, 20, [encN x]⟩)
  have hz : x.st = Sty.zero ↔ (x.st.top = 0 ∧ x.st.bottom = 0 ∧ x.st.padTop = 0 ∧ x.st.padBottom = 0 ∧ x.st.inset = 0 ∧ x.st.orphans = 0 ∧ x.st.widows = 0 ∧ x.st.head = 0 ∧ x.st.before = 0 ∧ x.st.after = 0 ∧ x.st.inside = 0 ∧ x.st.clear = 0) := by
    cases h : x.st; simp [Sty.zero]
  refine And.intro (fun hk => ?_) (fun hk => And.intro (fun hs => ?_) (fun hs => And.intro (fun hk2 => ?_) (fun hk2 => ?_)))
  · have hok : x.ok = (x.st.ok && decide (x.line = 0) && decide (x.space = 0) && decide (x.words.length = 0) && decide (x.side = 0) && decide (x.w = 0) && decide (x.h = 0)) := by simp [Nd.ok, hk]
    rw [hok]
    repeat' (first
      | with_reducible refine And.intro (fun h => ?_) (fun h => ?_)
      | with_reducible refine RetV.pure ((SubStore.refl σ).upd hid) ?_)
    all_goals simp -implicitDefEqProofs only [BB, effR_some, effD_some, Int.reduceEq, Int.reduceNe, Int.reduceLT, Int.reduceLE, Int.reduceGT, Int.reduceGE, Nat.reduceEqDiff, Nat.reduceAdd, Nat.reduceMul, Nat.reduceLeDiff, Nat.reduceSub, Nat.reduceLT, Nat.reduceBEq, ↓reduceIte, reduceCtorEq, ← decide_not, okind, vpre, vpure, intBin, intPre, strBin, strPre, popTo, argSlots, fldV, fldAV, subCells, idxVV, idxAAV, idxSV, sliceV, sliceSV, boundV, szIs, storeOp, storeS, setRowV, eff, extV, buildV, splice, eqSV, fitsL, eqCells, eqCell, minmaxV, capV, binBV, nilCheckV, bytesV, V.cells, V.stays, V.bool.injEq]
    all_goals (rw [Bool.eq_iff_iff]; simp_all)
  · refine RetV.pure hsub ?_
    have : x.st ≠ Sty.zero := by rw [Ne, hz]; simp at hs; intro h; simp_all
    have h1 : x.kind ≠ 1 := by simpa using hk
    simp [Nd.ok, h1, this]
  · have hst : x.st = Sty.zero := by rw [hz]; simp at hs; simp_all
    have hok : x.ok = (x.words.all (isFrom · 1 mx) && decide (0 < x.words.length) && isFrom x.line 1 mx && isFrom x.space 0 mx && decide (x.side = 0) && decide (x.w = 0) && decide (x.h = 0)) := by simp [Nd.ok, hk2, hst]
    refine Runs.loop (fun m st => ∃ i : Nat, i ≤ x.words.length ∧ m = x.words.length - i ∧ (x.words.take i).all (isFrom · 1 mx) = true ∧ st.σ = upd σ id ⟨28, 20, [encN x]⟩ ∧ st.s 1 = .ptr id 0 0 ∧ st.s 3 = vI mx ∧ st.s 4 = vI i) x.words.length ?_ ?_
    · exact ⟨0, by omega, by omega, by simp, rfl, rfl, rfl, rfl⟩
    · rintro m ⟨s, σ'⟩ ⟨i, hi, rfl, hp, hσ, h1, h3, h4⟩
      simp only at h1 h3 h4 hσ
      subst hσ
      refine Runs.mix 5 ?_
      (refine Runs.of_step O4 300 ?_; simp -implicitDefEqProofs only [BB, effR_some, effD_some, Int.reduceEq, Int.reduceNe, Int.reduceLT, Int.reduceLE, Int.reduceGT, Int.reduceGE, Nat.reduceEqDiff, Nat.reduceAdd, Nat.reduceMul, Nat.reduceLeDiff, Nat.reduceSub, Nat.reduceLT, Nat.reduceBEq, ↓reduceIte, reduceCtorEq, ← decide_not, okind, vpre, vpure, intBin, intPre, strBin, strPre, popTo, argSlots, fldV, fldAV, subCells, idxVV, idxAAV, idxSV, sliceV, sliceSV, boundV, szIs, storeOp, storeS, setRowV, eff, extV, buildV, splice, eqSV, fitsL, eqCells, eqCell, minmaxV, capV, binBV, nilCheckV, bytesV, V.cells, V.stays, h1, h3, h4, encN, Nd.cells, O4_67, cR_b, lenV_encI, mx])
      refine And.intro (fun hlt => ?_) (fun hge => ?_)
      · have hlt' : i < x.words.length := by omega
        have ht := all_take (isFrom · 1 mx) x.words i hlt'
        rw [hp, Bool.true_and] at ht
        simp -implicitDefEqProofs only [BB, effR_some, effD_some, Int.reduceEq, Int.reduceNe, Int.reduceLT, Int.reduceLE, Int.reduceGT, Int.reduceGE, Nat.reduceEqDiff, Nat.reduceAdd, Nat.reduceMul, Nat.reduceLeDiff, Nat.reduceSub, Nat.reduceLT, Nat.reduceBEq, ↓reduceIte, reduceCtorEq, ← decide_not, okind, vpre, vpure, intBin, intPre, strBin, strPre, popTo, argSlots, fldV, fldAV, subCells, idxVV, idxAAV, idxSV, sliceV, sliceSV, boundV, szIs, storeOp, storeS, setRowV, eff, extV, buildV, splice, eqSV, fitsL, eqCells, eqCell, minmaxV, capV, binBV, nilCheckV, bytesV, V.cells, V.stays, idxAV_encI hlt', O4_67, h1, h3, h4, mx, cR_b]
        refine And.intro (fun hw => ?_) (fun hw => ?_)
        · refine RetV.pure ((SubStore.refl σ).upd hid) ?_
          have hw' : isFrom x.words[i] 1 mx = false := by simp at hw; simp [isFrom, mx]; omega
          rw [hok]
          have : (x.words.all (isFrom · 1 mx)) = false := by
            rw [List.all_eq_false]
            exact ⟨_, List.getElem_mem hlt', by simp [hw']⟩
          simp [this]
        · have hw' : isFrom x.words[i] 1 mx = true := by simp at hw; simp [isFrom, mx]; omega
          refine ⟨inR_i64 (by omega) (by omega), _, ?_, i + 1, by omega, rfl, ?_, ?_⟩
          · omega
          · rw [← mx, ht]; exact hw'
          · simp
      · have hi' : i = x.words.length := by simp at hge; omega
        subst hi'
        rw [List.take_length] at hp
        rw [hok, hp]
        repeat' (first
          | with_reducible refine And.intro (fun h => ?_) (fun h => ?_)
          | with_reducible refine RetV.pure ((SubStore.refl σ).upd hid) ?_)
        all_goals try simp -implicitDefEqProofs only [BB, effR_some, effD_some, Int.reduceEq, Int.reduceNe, Int.reduceLT, Int.reduceLE, Int.reduceGT, Int.reduceGE, Nat.reduceEqDiff, Nat.reduceAdd, Nat.reduceMul, Nat.reduceLeDiff, Nat.reduceSub, Nat.reduceLT, Nat.reduceBEq, ↓reduceIte, reduceCtorEq, ← decide_not, okind, vpre, vpure, intBin, intPre, strBin, strPre, popTo, argSlots, fldV, fldAV, subCells, idxVV, idxAAV, idxSV, sliceV, sliceSV, boundV, szIs, storeOp, storeS, setRowV, eff, extV, buildV, splice, eqSV, fitsL, eqCells, eqCell, minmaxV, capV, binBV, nilCheckV, bytesV, V.cells, V.stays, V.bool.injEq]
        all_goals (rw [Bool.eq_iff_iff]; simp_all [isFrom, mx] <;> omega)
  · have hst : x.st = Sty.zero := by rw [hz]; simp at hs; simp_all
    have h1 : x.kind ≠ 1 := by simpa using hk
    have hok : x.ok = (decide (x.line = 0) && decide (x.space = 0) && decide (x.words.length = 0) && isFrom x.w 1 mx && isFrom x.h 1 mx &&
      (decide (x.kind = 3) && decide (x.side = 0) || decide (x.kind = 4) && isFrom x.side 1 2)) := by have h2 : x.kind ≠ 2 := (by simpa using hk2); simp [Nd.ok, h1, h2, hst]
    rw [hok]
    repeat' (first
      | with_reducible refine And.intro (fun h => ?_) (fun h => ?_)
      | with_reducible refine RetV.pure ((SubStore.refl σ).upd hid) ?_)
    all_goals try simp -implicitDefEqProofs only [BB, effR_some, effD_some, Int.reduceEq, Int.reduceNe, Int.reduceLT, Int.reduceLE, Int.reduceGT, Int.reduceGE, Nat.reduceEqDiff, Nat.reduceAdd, Nat.reduceMul, Nat.reduceLeDiff, Nat.reduceSub, Nat.reduceLT, Nat.reduceBEq, ↓reduceIte, reduceCtorEq, ← decide_not, okind, vpre, vpure, intBin, intPre, strBin, strPre, popTo, argSlots, fldV, fldAV, subCells, idxVV, idxAAV, idxSV, sliceV, sliceSV, boundV, szIs, storeOp, storeS, setRowV, eff, extV, buildV, splice, eqSV, fitsL, eqCells, eqCell, minmaxV, capV, binBV, nilCheckV, bytesV, V.cells, V.stays, V.bool.injEq]
    all_goals (rw [Bool.eq_iff_iff]; simp_all [isFrom, mx] <;> omega)
end Go.Vc
namespace Go.Vc
open Go.Proofs
def encNs (l : List Nd) : V := .sl 20 (l.map encN)
theorem lenV_encNs (l : List Nd) : lenV false (encNs l) = some (.int .i64 l.length) := by simp [encNs, lenV]
theorem idxAV_encNs {σ : Store} {l : List Nd} {i : Nat} (h : i < l.length) : idxAV σ 20 (encNs l) (.int .i64 i) = some (.rp (.agg (Nd.cells l[i]))) := by
  simp [encNs, idxAV, h, encN]
def rowsB (l : List Nd) (a e : Nat) : Bool :=
  if _h : a < e then
    match l[a]? with
    | none => false
    | some x => if _hx : 1 ≤ x.size ∧ x.size ≤ (e : Int) - a then
        (decide (x.kind = 1) || decide (x.size ≤ 1)) && rowsB l (a + 1) (a + x.size.toNat) && rowsB l (a + x.size.toNat) e else false
  else true
termination_by e - a
decreasing_by all_goals omega
set_option maxRecDepth 100000 in
theorem rows_c (l : List Nd) (hl : l.length ≤ 1000000000000) : ∀ (m a e : Nat), e - a < m → a ≤ e → e ≤ l.length → PFun Try.prog 37 [encNs l, vI a, vI e] (.bool (rowsB l a e))
  | 0, _, _, h, _, _ => by omega
  | m + 1, a, e, hm, hae, he => fun σ => by
    refine Contract.of_runs Try.func37 e37 k37 (by simp [c37]) ?_
    refine Runs.mix 8 ?_
    (refine Runs.of_step Orc.nothing 300 ?_; simp -implicitDefEqProofs only [BB, effR_some, effD_some, Int.reduceEq, Int.reduceNe, Int.reduceLT, Int.reduceLE, Int.reduceGT, Int.reduceGE, Nat.reduceEqDiff, Nat.reduceAdd, Nat.reduceMul, Nat.reduceLeDiff, Nat.reduceSub, Nat.reduceLT, Nat.reduceBEq, ↓reduceIte, reduceCtorEq, ← decide_not, okind, vpre, vpure, intBin, intPre, strBin, strPre, popTo, argSlots, fldV, fldAV, subCells, idxVV, idxAAV, idxSV, sliceV, sliceSV, boundV, szIs, storeOp, storeS, setRowV, eff, extV, buildV, splice, eqSV, fitsL, eqCells, eqCell, minmaxV, capV, binBV, nilCheckV, bytesV, V.cells, V.stays, Orc.nothing, c37])
    refine Runs.loop (fun mm st => ∃ b : Nat, a ≤ b ∧ b ≤ e ∧ mm = e - b ∧ rowsB l a e = rowsB l b e ∧ SubStore σ st.σ ∧ st.s 0 = encNs l ∧ st.s 1 = vI b ∧ st.s 2 = vI e) (e - a) ?_ ?_
    · exact ⟨a, by omega, by omega, rfl, rfl, SubStore.refl σ, rfl, rfl, rfl⟩
    · rintro mm ⟨s, σ'⟩ ⟨b, hab, hbe, rfl, hr, hsub, h0, h1, h2⟩
      simp only at h0 h1 h2 hsub
      refine Runs.mix 8 ?_
      (refine Runs.of_step Orc.nothing 300 ?_; simp -implicitDefEqProofs only [BB, effR_some, effD_some, Int.reduceEq, Int.reduceNe, Int.reduceLT, Int.reduceLE, Int.reduceGT, Int.reduceGE, Nat.reduceEqDiff, Nat.reduceAdd, Nat.reduceMul, Nat.reduceLeDiff, Nat.reduceSub, Nat.reduceLT, Nat.reduceBEq, ↓reduceIte, reduceCtorEq, ← decide_not, okind, vpre, vpure, intBin, intPre, strBin, strPre, popTo, argSlots, fldV, fldAV, subCells, idxVV, idxAAV, idxSV, sliceV, sliceSV, boundV, szIs, storeOp, storeS, setRowV, eff, extV, buildV, splice, eqSV, fitsL, eqCells, eqCell, minmaxV, capV, binBV, nilCheckV, bytesV, V.cells, V.stays, Orc.nothing, h0, h1, h2, cR_b, Nd.cells])
      refine And.intro (fun hlt => ?_) (fun hge => ?_)
      · have hlt' : b < l.length := by simp at hlt; omega
        simp -implicitDefEqProofs only [BB, effR_some, effD_some, Int.reduceEq, Int.reduceNe, Int.reduceLT, Int.reduceLE, Int.reduceGT, Int.reduceGE, Nat.reduceEqDiff, Nat.reduceAdd, Nat.reduceMul, Nat.reduceLeDiff, Nat.reduceSub, Nat.reduceLT, Nat.reduceBEq, ↓reduceIte, reduceCtorEq, ← decide_not, okind, vpre, vpure, intBin, intPre, strBin, strPre, popTo, argSlots, fldV, fldAV, subCells, idxVV, idxAAV, idxSV, sliceV, sliceSV, boundV, szIs, storeOp, storeS, setRowV, eff, extV, buildV, splice, eqSV, fitsL, eqCells, eqCell, minmaxV, capV, binBV, nilCheckV, bytesV, V.cells, V.stays, idxAV_encNs hlt', h0, h1, h2, cR_b, Nd.cells]
        intro id hid
        have hsub' := hsub.upd hid (o := ⟨28, 20, [.agg (Nd.cells l[b])]⟩)
        have hb : l[b]? = some l[b] := by simp [hlt']
        have hlt2 : b < e := by simp at hlt; omega
        have hR : rowsB l b e = if _hx : 1 ≤ l[b].size ∧ l[b].size ≤ (e : Int) - b then
          (decide (l[b].kind = 1) || decide (l[b].size ≤ 1)) && rowsB l (b + 1) (b + l[b].size.toNat) && rowsB l (b + l[b].size.toNat) e else false := by
          rw [rowsB, dif_pos hlt2, hb]
        refine And.intro (fun hs => ?_) (fun hs => ?_)
        · refine ⟨inR_i64 (by omega) (by omega), And.intro (fun hs2 => ?_) (fun hs2 => ?_)⟩
          · have hx : 1 ≤ l[b].size ∧ l[b].size ≤ (e : Int) - b := by simp at hs hs2; omega
            rw [dif_pos hx] at hR
            have ih := rows_c l hl m (b + 1) (b + l[b].size.toNat) (by omega) (by omega) (by omega)
            have e2 : ((b + l[b].size.toNat : Nat) : Int) = b + l[b].size := by omega
            rw [e2, Int.natCast_add, Int.natCast_one] at ih
            refine And.intro (fun hk => And.intro (fun hs3 => ?_) (fun hs3 => ?_)) (fun hk => ?_)
            · refine ⟨inR_i64 (by omega) (by omega), inR_i64 (by omega) (by omega), ?_⟩
              refine Runs.pcall rfl rfl rfl (ih _) ?_
              (refine Runs.of_step Orc.nothing 300 ?_; simp -implicitDefEqProofs only [BB, effR_some, effD_some, Int.reduceEq, Int.reduceNe, Int.reduceLT, Int.reduceLE, Int.reduceGT, Int.reduceGE, Nat.reduceEqDiff, Nat.reduceAdd, Nat.reduceMul, Nat.reduceLeDiff, Nat.reduceSub, Nat.reduceLT, Nat.reduceBEq, ↓reduceIte, reduceCtorEq, ← decide_not, okind, vpre, vpure, intBin, intPre, strBin, strPre, popTo, argSlots, fldV, fldAV, subCells, idxVV, idxAAV, idxSV, sliceV, sliceSV, boundV, szIs, storeOp, storeS, setRowV, eff, extV, buildV, splice, eqSV, fitsL, eqCells, eqCell, minmaxV, capV, binBV, nilCheckV, bytesV, V.cells, V.stays, Orc.nothing, h0, h1, h2, cR_b, Nd.cells])
              refine And.intro (fun hf => ?_) (fun hf => ?_)
              · refine RetV.pure hsub' ?_
                simp only [Bool.not_eq_eq_eq_not, Bool.not_true] at hf
                rw [hr, hR, hf]; simp
              · simp only [Bool.not_eq_eq_eq_not, Bool.not_false] at hf
                refine ⟨inR_i64 (by omega) (by omega), _, ?_, b + l[b].size.toNat, by omega, by omega, rfl, ?_, hsub', ?_⟩
                · omega
                · rw [hr, hR, hf]; simp; omega
                · rw [e2]
            · refine RetV.pure hsub' ?_
              rw [hr, hR]
              have : ¬ l[b].size ≤ 1 := by omega
              simp [hk, this]
            · refine ⟨inR_i64 (by omega) (by omega), inR_i64 (by omega) (by omega), ?_⟩
              refine Runs.pcall rfl rfl rfl (ih _) ?_
              (refine Runs.of_step Orc.nothing 300 ?_; simp -implicitDefEqProofs only [BB, effR_some, effD_some, Int.reduceEq, Int.reduceNe, Int.reduceLT, Int.reduceLE, Int.reduceGT, Int.reduceGE, Nat.reduceEqDiff, Nat.reduceAdd, Nat.reduceMul, Nat.reduceLeDiff, Nat.reduceSub, Nat.reduceLT, Nat.reduceBEq, ↓reduceIte, reduceCtorEq, ← decide_not, okind, vpre, vpure, intBin, intPre, strBin, strPre, popTo, argSlots, fldV, fldAV, subCells, idxVV, idxAAV, idxSV, sliceV, sliceSV, boundV, szIs, storeOp, storeS, setRowV, eff, extV, buildV, splice, eqSV, fitsL, eqCells, eqCell, minmaxV, capV, binBV, nilCheckV, bytesV, V.cells, V.stays, Orc.nothing, h0, h1, h2, cR_b, Nd.cells])
              refine And.intro (fun hf => ?_) (fun hf => ?_)
              · refine RetV.pure hsub' ?_
                simp only [Bool.not_eq_eq_eq_not, Bool.not_true] at hf
                rw [hr, hR, hf]; simp
              · simp only [Bool.not_eq_eq_eq_not, Bool.not_false] at hf
                refine ⟨inR_i64 (by omega) (by omega), _, ?_, b + l[b].size.toNat, by omega, by omega, rfl, ?_, hsub', ?_⟩
                · omega
                · rw [hr, hR, hf]; simp; omega
                · rw [e2]
          · refine RetV.pure hsub' ?_
            rw [hr, hR, dif_neg (by omega)]
        · refine RetV.pure hsub' ?_
          rw [hr, hR, dif_neg (by omega)]
      · have : b = e := by simp at hge; omega
        subst this
        refine RetV.pure hsub ?_
        rw [hr, rowsB]
        simp
end Go.Vc
namespace Go.Vc
open Go.Proofs
/-- nodes of a size that can be gone through -/
def Fine (l : List Nd) : Prop := l.length ≤ 10000 ∧ ∀ x ∈ l, x.words.length ≤ 200000000000000
theorem nall_take {α : Type} (p : α → Bool) (l : List α) (i : Nat) (h : i < l.length) : (l.take (i + 1)).all p = ((l.take i).all p && p l[i]) := by
  rw [List.take_succ_eq_append_getElem h, List.all_append]
  simp
def isB (l : List Nd) : Bool := l.all Nd.ok && rowsB l 0 l.length
theorem loadV_rp_node (σ : Store) (x : Nd) : loadV σ true 20 (.rp (.agg x.cells)) = some (encN x) := rfl
set_option maxRecDepth 100000 in
theorem is_c (l : List Nd) (hl : Fine l) : PFun Try.prog 14 [encNs l] (.bool (isB l)) := fun σ => by
  obtain ⟨hl1, hl2⟩ := hl
  refine Contract.of_runs Try.func14 e14 k14 (by simp [c14]) ?_
  refine Runs.mix 4 ?_
  (refine Runs.of_step Orc.nothing 300 ?_; simp -implicitDefEqProofs only [BB, effR_some, effD_some, Int.reduceEq, Int.reduceNe, Int.reduceLT, Int.reduceLE, Int.reduceGT, Int.reduceGE, Nat.reduceEqDiff, Nat.reduceAdd, Nat.reduceMul, Nat.reduceLeDiff, Nat.reduceSub, Nat.reduceLT, Nat.reduceBEq, ↓reduceIte, reduceCtorEq, ← decide_not, okind, vpre, vpure, intBin, intPre, strBin, strPre, popTo, argSlots, fldV, fldAV, subCells, idxVV, idxAAV, idxSV, sliceV, sliceSV, boundV, szIs, storeOp, storeS, setRowV, eff, extV, buildV, splice, eqSV, fitsL, eqCells, eqCell, minmaxV, capV, binBV, nilCheckV, bytesV, V.cells, V.stays, Orc.nothing, c14])
  refine Runs.loop (fun m st => ∃ i : Nat, i ≤ l.length ∧ m = l.length - i ∧ (l.take i).all Nd.ok = true ∧ st.σ = σ ∧ st.s 0 = encNs l ∧ st.s 3 = vI i) l.length ?_ ?_
  · exact ⟨0, by omega, by omega, by simp, rfl, rfl, rfl⟩
  · rintro m ⟨s, σ'⟩ ⟨i, hi, rfl, hp, hσ, h0, h3⟩
    simp only at h0 h3 hσ
    subst hσ
    refine Runs.mix 4 ?_
    (refine Runs.of_step Orc.nothing 300 ?_; simp -implicitDefEqProofs only [BB, effR_some, effD_some, Int.reduceEq, Int.reduceNe, Int.reduceLT, Int.reduceLE, Int.reduceGT, Int.reduceGE, Nat.reduceEqDiff, Nat.reduceAdd, Nat.reduceMul, Nat.reduceLeDiff, Nat.reduceSub, Nat.reduceLT, Nat.reduceBEq, ↓reduceIte, reduceCtorEq, ← decide_not, okind, vpre, vpure, intBin, intPre, strBin, strPre, popTo, argSlots, fldV, fldAV, subCells, idxVV, idxAAV, idxSV, sliceV, sliceSV, boundV, szIs, storeOp, storeS, setRowV, eff, extV, buildV, splice, eqSV, fitsL, eqCells, eqCell, minmaxV, capV, binBV, nilCheckV, bytesV, V.cells, V.stays, Orc.nothing, h0, h3, cR_b, lenV_encNs])
    refine And.intro (fun hlt => ?_) (fun hge => ?_)
    · have hlt' : i < l.length := by simp at hlt; omega
      have ht := nall_take Nd.ok l i hlt'
      rw [hp, Bool.true_and] at ht
      simp -implicitDefEqProofs only [BB, effR_some, effD_some, Int.reduceEq, Int.reduceNe, Int.reduceLT, Int.reduceLE, Int.reduceGT, Int.reduceGE, Nat.reduceEqDiff, Nat.reduceAdd, Nat.reduceMul, Nat.reduceLeDiff, Nat.reduceSub, Nat.reduceLT, Nat.reduceBEq, ↓reduceIte, reduceCtorEq, ← decide_not, okind, vpre, vpure, intBin, intPre, strBin, strPre, popTo, argSlots, fldV, fldAV, subCells, idxVV, idxAAV, idxSV, sliceV, sliceSV, boundV, szIs, storeOp, storeS, setRowV, eff, extV, buildV, splice, eqSV, fitsL, eqCells, eqCell, minmaxV, capV, binBV, nilCheckV, bytesV, V.cells, V.stays, idxAV_encNs hlt', loadV_rp_node, h0, h3, cR_b]
      refine Runs.pcall rfl rfl rfl (one_c l[i] (by have := hl2 _ (List.getElem_mem hlt'); omega) _) ?_
      (refine Runs.of_step Orc.nothing 300 ?_; simp -implicitDefEqProofs only [BB, effR_some, effD_some, Int.reduceEq, Int.reduceNe, Int.reduceLT, Int.reduceLE, Int.reduceGT, Int.reduceGE, Nat.reduceEqDiff, Nat.reduceAdd, Nat.reduceMul, Nat.reduceLeDiff, Nat.reduceSub, Nat.reduceLT, Nat.reduceBEq, ↓reduceIte, reduceCtorEq, ← decide_not, okind, vpre, vpure, intBin, intPre, strBin, strPre, popTo, argSlots, fldV, fldAV, subCells, idxVV, idxAAV, idxSV, sliceV, sliceSV, boundV, szIs, storeOp, storeS, setRowV, eff, extV, buildV, splice, eqSV, fitsL, eqCells, eqCell, minmaxV, capV, binBV, nilCheckV, bytesV, V.cells, V.stays, Orc.nothing, h0, h3, cR_b])
      refine And.intro (fun hf => ?_) (fun hf => ?_)
      · simp only [Bool.not_eq_eq_eq_not, Bool.not_true] at hf
        refine RetV.same ?_
        have : l.all Nd.ok = false := by
          rw [List.all_eq_false]
          exact ⟨_, List.getElem_mem hlt', by simp [hf]⟩
        simp [isB, this]
      · simp only [Bool.not_eq_eq_eq_not, Bool.not_false] at hf
        refine ⟨inR_i64 (by omega) (by omega), _, ?_, i + 1, by omega, rfl, ?_, ?_⟩
        · omega
        · rw [ht]; exact hf
        · simp
    · have hi' : i = l.length := by simp at hge; omega
      subst hi'
      rw [List.take_length] at hp
      have hr := rows_c l (by omega) (l.length + 1) 0 l.length (by omega) (by omega) (by omega)
      refine Runs.pcall rfl rfl rfl (hr _) ?_
      (refine Runs.of_step Orc.nothing 300 ?_; simp -implicitDefEqProofs only [BB, effR_some, effD_some, Int.reduceEq, Int.reduceNe, Int.reduceLT, Int.reduceLE, Int.reduceGT, Int.reduceGE, Nat.reduceEqDiff, Nat.reduceAdd, Nat.reduceMul, Nat.reduceLeDiff, Nat.reduceSub, Nat.reduceLT, Nat.reduceBEq, ↓reduceIte, reduceCtorEq, ← decide_not, okind, vpre, vpure, intBin, intPre, strBin, strPre, popTo, argSlots, fldV, fldAV, subCells, idxVV, idxAAV, idxSV, sliceV, sliceSV, boundV, szIs, storeOp, storeS, setRowV, eff, extV, buildV, splice, eqSV, fitsL, eqCells, eqCell, minmaxV, capV, binBV, nilCheckV, bytesV, V.cells, V.stays, Orc.nothing, h0, h3, cR_b])
      refine RetV.same ?_
      simp [isB, hp]
end Go.Vc
namespace Go.Vc
open Go.Proofs
theorem rowsB_size (l : List Nd) : ∀ (m a e : Nat), e - a < m → e ≤ l.length → rowsB l a e = true → ∀ k, a ≤ k → (h : k < e) → (h2 : k < l.length) → 1 ≤ l[k].size ∧ l[k].size ≤ (e : Int) - k ∧ (l[k].kind = 1 ∨ l[k].size ≤ 1)
  | 0, _, _, h, _, _ => by omega
  | m + 1, a, e, hm, he, hr => by
    intro k hk hke h2
    have hae : a < e := by omega
    have ha : a < l.length := by omega
    rw [rowsB, dif_pos hae] at hr
    have hga : l[a]? = some l[a] := by simp [ha]
    rw [hga] at hr
    simp only at hr
    split at hr
    · rename_i hx
      simp only [Bool.and_eq_true, Bool.or_eq_true, decide_eq_true_eq] at hr
      obtain ⟨⟨h3, h4⟩, h5⟩ := hr
      by_cases hka : k = a
      · subst hka; exact ⟨hx.1, hx.2, h3⟩
      · by_cases hin : k < a + l[a].size.toNat
        · obtain ⟨g1, g2, g3⟩ := rowsB_size l m (a + 1) (a + l[a].size.toNat) (by omega) (by omega) h4 k (by omega) hin h2
          exact ⟨g1, by omega, g3⟩
        · exact rowsB_size l m (a + l[a].size.toNat) e (by omega) he h5 k (by omega) hke h2
    · cases hr
structure Sm where
  (depth pieces nodes heights : Int)
deriving DecidableEq
def Sm.cells (s : Sm) : List V := [vI s.depth, vI s.pieces, vI s.nodes, vI s.heights]
def Sm.fine (s : Sm) (k : Int) : Prop := (0 ≤ s.depth ∧ s.depth ≤ k) ∧ (0 ≤ s.pieces ∧ s.pieces ≤ k * 200000000000000) ∧ (0 ≤ s.heights ∧ s.heights ≤ 1099511627777)
end Go.Vc
namespace Go.Vc
open Go.Proofs
def Sm.zero : Sm := ⟨0, 0, 0, 0⟩
end Go.Vc
namespace Go.Vc
open Go.Proofs
theorem firstI_any (p : Int → Bool) : ∀ l, decide (firstI p l ≥ 0) = l.any p
  | [] => by simp [firstI]
  | x :: l => by
    have ih := firstI_any p l
    simp only [firstI, List.any_cons]
    have hg := firstI_ge p l
    rw [← ih, Bool.eq_iff_iff]
    simp only [decide_eq_true_eq, Bool.or_eq_true]
    split
    · rename_i h; simp [h]
    · rename_i h
      simp only [h, Bool.false_eq_true, false_or]

      by_cases hx : firstI p l < 0
      · rw [if_pos hx]; constructor <;> intro hh <;> simp at hh ⊢ <;> omega
      · rw [if_neg hx]; constructor <;> intro hh <;> simp at hh ⊢ <;> omega
theorem containsFunc_c {σ : Store} {sv : V} {l : List Int} {f : FuncId} {caps : List V} {p : Int → Bool} (hr : Reads σ 1 false sv (l.map vI)) (hl : l.length ≤ 200000000000000)
    (hf : ∀ n ∈ l, Contract Try.prog f (vI n :: caps) σ fun r σ' => r = .bool (p n) ∧ σ' = σ) :
    Contract Try.prog 89 [sv, .fn f caps] σ fun r σ' => r = .bool (l.any p) ∧ σ' = σ := by
  refine Contract.of_runs Try.func89 e89 k89 (by simp [c89]) ?_
  (refine Runs.of_step Orc.nothing 300 ?_; simp -implicitDefEqProofs only [BB, effR_some, effD_some, Int.reduceEq, Int.reduceNe, Int.reduceLT, Int.reduceLE, Int.reduceGT, Int.reduceGE, Nat.reduceEqDiff, Nat.reduceAdd, Nat.reduceMul, Nat.reduceLeDiff, Nat.reduceSub, Nat.reduceLT, Nat.reduceBEq, ↓reduceIte, reduceCtorEq, ← decide_not, okind, vpre, vpure, intBin, intPre, strBin, strPre, popTo, argSlots, fldV, fldAV, subCells, idxVV, idxAAV, idxSV, sliceV, sliceSV, boundV, szIs, storeOp, storeS, setRowV, eff, extV, buildV, splice, eqSV, fitsL, eqCells, eqCell, minmaxV, capV, binBV, nilCheckV, bytesV, V.cells, V.stays, Orc.nothing, c89])
  refine Runs.pcall rfl rfl rfl (indexFunc_c hr hl hf) ?_
  (refine Runs.of_step Orc.nothing 300 ?_; simp -implicitDefEqProofs only [BB, effR_some, effD_some, Int.reduceEq, Int.reduceNe, Int.reduceLT, Int.reduceLE, Int.reduceGT, Int.reduceGE, Nat.reduceEqDiff, Nat.reduceAdd, Nat.reduceMul, Nat.reduceLeDiff, Nat.reduceSub, Nat.reduceLT, Nat.reduceBEq, ↓reduceIte, reduceCtorEq, ← decide_not, okind, vpre, vpure, intBin, intPre, strBin, strPre, popTo, argSlots, fldV, fldAV, subCells, idxVV, idxAAV, idxSV, sliceV, sliceSV, boundV, szIs, storeOp, storeS, setRowV, eff, extV, buildV, splice, eqSV, fitsL, eqCells, eqCell, minmaxV, capV, binBV, nilCheckV, bytesV, V.cells, V.stays, Orc.nothing])
  refine RetV.same ?_
  rw [← firstI_any]
theorem has1_c {σ : Store} {id : Nat} {a b : Int} (h : σ id = some ⟨103, 2, [.agg [vI a, vI b]]⟩) (n : Int) :
    Contract Try.prog 90 [vI n, .ptr id 0 0] σ fun r σ' => r = .bool (!isFrom n a b) ∧ σ' = σ := by
  refine Contract.of_runs Try.func90 e90 k90 (by simp [c90]) ?_
  (refine Runs.of_step Orc.nothing 300 ?_; simp -implicitDefEqProofs only [BB, effR_some, effD_some, Int.reduceEq, Int.reduceNe, Int.reduceLT, Int.reduceLE, Int.reduceGT, Int.reduceGE, Nat.reduceEqDiff, Nat.reduceAdd, Nat.reduceMul, Nat.reduceLeDiff, Nat.reduceSub, Nat.reduceLT, Nat.reduceBEq, ↓reduceIte, reduceCtorEq, ← decide_not, okind, vpre, vpure, intBin, intPre, strBin, strPre, popTo, argSlots, fldV, fldAV, subCells, idxVV, idxAAV, idxSV, sliceV, sliceSV, boundV, szIs, storeOp, storeS, setRowV, eff, extV, buildV, splice, eqSV, fitsL, eqCells, eqCell, minmaxV, capV, binBV, nilCheckV, bytesV, V.cells, V.stays, Orc.nothing, c90, h])
  refine And.intro (fun h => ?_) (fun h => ?_)
  · refine RetV.same ?_
    congr 1
    simp only [isFrom]
    rw [← decide_not, decide_eq_decide]
    omega
  · refine RetV.same ?_
    have : ¬ (n ≥ a ∧ n ≤ b) := by omega
    simp only [isFrom, this, decide_false, Bool.not_false]
theorem Reads.mono {σ σ' : Store} {sz : Nat} {agg : Bool} {sv : V} {rows : List V} (h : SubStore σ σ') (hr : Reads σ sz agg sv rows) : Reads σ' sz agg sv rows := by
  refine ⟨hr.1, fun i v hv => ?_⟩
  obtain ⟨p, h1, h2⟩ := hr.2 i v hv
  refine ⟨p, ?_, ?_⟩
  · cases sv <;> simp only [idxAV, reduceCtorEq] at h1 ⊢
    · exact h1
    · rename_i id off len
      cases ho : σ id with
      | none => rw [ho] at h1; cases h1
      | some ob => rw [ho] at h1; rw [h id ob ho]; exact h1
  · cases p <;> simp only [loadV, reduceCtorEq] at h2 ⊢
    · rename_i id i k
      cases ho : σ id with
      | none => rw [ho] at h2; cases h2
      | some ob => rw [ho] at h2; rw [h id ob ho]; exact h2
    · exact h2
theorem has_c {σ : Store} {sv : V} {l : List Int} {a b : Int} (hr : Reads σ 1 false sv (l.map vI)) (hl : l.length ≤ 200000000000000) :
    Contract Try.prog 65 [.agg [vI a, vI b], sv] σ fun r σ' => r = .bool (l.all fun n => isFrom n a b) ∧ σ' = σ := by
  refine Contract.of_runs Try.func65 e65 k65 (by simp [c65]) ?_
  (refine Runs.of_step Orc.nothing 300 ?_; simp -implicitDefEqProofs only [BB, effR_some, effD_some, Int.reduceEq, Int.reduceNe, Int.reduceLT, Int.reduceLE, Int.reduceGT, Int.reduceGE, Nat.reduceEqDiff, Nat.reduceAdd, Nat.reduceMul, Nat.reduceLeDiff, Nat.reduceSub, Nat.reduceLT, Nat.reduceBEq, ↓reduceIte, reduceCtorEq, ← decide_not, okind, vpre, vpure, intBin, intPre, strBin, strPre, popTo, argSlots, fldV, fldAV, subCells, idxVV, idxAAV, idxSV, sliceV, sliceSV, boundV, szIs, storeOp, storeS, setRowV, eff, extV, buildV, splice, eqSV, fitsL, eqCells, eqCell, minmaxV, capV, binBV, nilCheckV, bytesV, V.cells, V.stays, Orc.nothing, c65])
  intro id hid
  refine Runs.pcall rfl rfl rfl (containsFunc_c (p := fun n => !isFrom n a b) (hr.mono ((SubStore.refl σ).upd hid)) hl (fun n _ => has1_c upd_same n)) ?_
  (refine Runs.of_step Orc.nothing 300 ?_; simp -implicitDefEqProofs only [BB, effR_some, effD_some, Int.reduceEq, Int.reduceNe, Int.reduceLT, Int.reduceLE, Int.reduceGT, Int.reduceGE, Nat.reduceEqDiff, Nat.reduceAdd, Nat.reduceMul, Nat.reduceLeDiff, Nat.reduceSub, Nat.reduceLT, Nat.reduceBEq, ↓reduceIte, reduceCtorEq, ← decide_not, okind, vpre, vpure, intBin, intPre, strBin, strPre, popTo, argSlots, fldV, fldAV, subCells, idxVV, idxAAV, idxSV, sliceV, sliceSV, boundV, szIs, storeOp, storeS, setRowV, eff, extV, buildV, splice, eqSV, fitsL, eqCells, eqCell, minmaxV, capV, binBV, nilCheckV, bytesV, V.cells, V.stays, Orc.nothing])
  refine RetV.pure ((SubStore.refl σ).upd hid) ?_
  rw [List.all_eq_not_any_not]
end Go.Vc
namespace Go.Vc
open Go.Proofs
def intsOf : List V → Option (List Int)
  | [] => some []
  | .int .i64 n :: l => (intsOf l).map (n :: ·)
  | _ => none
theorem intsOf_eq : ∀ {l : List V} {m : List Int}, intsOf l = some m → l = m.map vI
  | [], m, h => by simp [intsOf] at h; subst h; rfl
  | v :: l, m, h => by
    cases v <;> try (simp [intsOf] at h)
    rename_i k n
    cases k <;> try (simp [intsOf] at h)
    obtain ⟨m', h1, rfl⟩ := h
    rw [intsOf_eq h1]; rfl
theorem intsOf_map (m : List Int) : intsOf (m.map vI) = some m := by
  induction m with
  | nil => rfl
  | cons n m ih => simp [intsOf, ih]
def readInts (σ : Store) : V → Option (List Int)
  | .own id off len => match σ id with
      | some ob => if ob.sz = 1 ∧ off + len ≤ ob.rows.length ∧ len ≤ 200000000000000 then (if (intsOf ob.rows).isSome then intsOf ((ob.rows.drop off).take len) else none) else none
      | none => none
  | .sl 1 rows => if rows.length ≤ 200000000000000 then intsOf rows else none
  | _ => none
theorem readInts_reads {σ : Store} {sv : V} {l : List Int} (h : readInts σ sv = some l) : Reads σ 1 false sv (l.map vI) ∧ l.length ≤ 200000000000000 := by
  unfold readInts at h
  split at h
  · rename_i id off len
    split at h
    · rename_i ob hob
      split at h
      · rename_i hc
        split at h
        · rename_i hi
          have he := intsOf_eq h
          obtain ⟨m, hm⟩ := Option.isSome_iff_exists.1 hi
          have hm := intsOf_eq hm
          have hr := Reads.own (σ := σ) hob hc.1 hc.2.1 (fun r hr => by rw [hm] at hr; simp only [List.mem_map] at hr; obtain ⟨n, _, rfl⟩ := hr; rfl)
          rw [he] at hr
          have hl : l.length = len := by
            have := congrArg List.length he
            simp at this
            omega
          exact ⟨hr, by omega⟩
        · cases h
      · cases h
    · cases h
  · rename_i rows
    split at h
    · rename_i hc
      have he := intsOf_eq h
      subst he
      exact ⟨Reads.ints, by simpa using hc⟩
    · cases h
  · cases h
theorem readInts_mono {σ σ' : Store} (hs : SubStore σ σ') {sv : V} {l : List Int} (h : readInts σ sv = some l) : readInts σ' sv = some l := by
  unfold readInts at h ⊢
  split at h
  · split at h
    · rename_i ob hob
      simp only [hs _ _ hob]
      exact h
    · cases h
  · exact h
  · cases h
theorem readInts_encI (σ : Store) {l : List Int} (h : l.length ≤ 200000000000000) : readInts σ (encI l) = some l := by
  simp only [encI, readInts, List.length_map, if_pos h]
  exact intsOf_map l
def o10 (f : FuncId) (args : List V) (σ : Store) : Option V := if f = 65 then (match args with
  | [.agg [.int .i64 a, .int .i64 b], sv] => (readInts σ sv).map fun l => .bool (l.all fun n => isFrom n a b)
  | _ => none) else none
def O10 : Orc Try.prog where
  get := o10
  up f args σ σ' v hs h := by
    unfold o10 at h ⊢
    split at h
    · rename_i hf
      rw [if_pos hf]
      split at h
      · simp only [Option.map_eq_some_iff] at h ⊢
        obtain ⟨l, h1, h2⟩ := h
        exact ⟨l, readInts_mono hs h1, h2⟩
      · cases h
    · cases h
  ok f args σ v h := by
    unfold o10 at h
    split at h
    · rename_i hf
      subst hf
      split at h
      · simp only [Option.map_eq_some_iff] at h
        obtain ⟨l, h1, rfl⟩ := h
        obtain ⟨g1, g2⟩ := readInts_reads h1
        exact has_c g1 g2
      · cases h
    · cases h
theorem O10_65 (a b : Int) (sv : V) (σ : Store) : O10.get 65 [.agg [.int .i64 a, .int .i64 b], sv] σ = (readInts σ sv).map fun l => .bool (l.all fun n => isFrom n a b) := rfl
theorem readInts_own (σ : Store) (id off len : Nat) : readInts σ (.own id off len) = match σ id with
      | some ob => if ob.sz = 1 ∧ off + len ≤ ob.rows.length ∧ len ≤ 200000000000000 then (if (intsOf ob.rows).isSome then intsOf ((ob.rows.drop off).take len) else none) else none
      | none => none := rfl
theorem intsOf_int (n : Int) (l : List V) : intsOf (.int .i64 n :: l) = (intsOf l).map (n :: ·) := rfl
theorem intsOf_nil : intsOf [] = some [] := rfl
set_option maxRecDepth 100000 in
theorem styled_c (s : Sty) : PFun Try.prog 64 [.agg s.cells] (.bool s.ok) := fun σ => by
  refine Contract.of_runs Try.func64 e64 k64 (by simp [c64]) ?_
  refine Runs.mix 6 ?_
  (refine Runs.of_step O10 300 ?_; simp -implicitDefEqProofs only [BB, Int.reduceEq, Int.reduceNe, Int.reduceLT, Int.reduceLE, Int.reduceGT, Int.reduceGE, Nat.reduceEqDiff, Nat.reduceAdd, Nat.reduceMul, Nat.reduceLeDiff, Nat.reduceSub, Nat.reduceLT, Nat.reduceBEq, ↓reduceIte, reduceCtorEq, ← decide_not, okind, vpre, vpure, intBin, intPre, strBin, strPre, popTo, argSlots, fldV, fldAV, subCells, idxVV, idxAAV, idxSV, sliceV, sliceSV, boundV, szIs, storeOp, storeS, setRowV, eff, extV, buildV, splice, eqSV, fitsL, eqCells, eqCell, minmaxV, capV, binBV, nilCheckV, bytesV, V.cells, V.stays, c64, Sty.cells])
  refine effR_new fun id1 σ1 s1 a1 f1 => ?_
  simp -implicitDefEqProofs only [BB, Int.reduceEq, Int.reduceNe, Int.reduceLT, Int.reduceLE, Int.reduceGT, Int.reduceGE, Nat.reduceEqDiff, Nat.reduceAdd, Nat.reduceMul, Nat.reduceLeDiff, Nat.reduceSub, Nat.reduceLT, Nat.reduceBEq, ↓reduceIte, reduceCtorEq, ← decide_not, okind, vpre, vpure, intBin, intPre, strBin, strPre, popTo, argSlots, fldV, fldAV, subCells, idxVV, idxAAV, idxSV, sliceV, sliceSV, boundV, szIs, storeOp, storeS, setRowV, eff, extV, buildV, splice, eqSV, fitsL, eqCells, eqCell, minmaxV, capV, binBV, nilCheckV, bytesV, V.cells, V.stays]
  refine effR_new fun id3 σ2 s2 a3 f3 => ?_
  have n13 := ne_new a1 f3
  have a1 := s2 _ _ a1
  simp -implicitDefEqProofs only [BB, Int.reduceEq, Int.reduceNe, Int.reduceLT, Int.reduceLE, Int.reduceGT, Int.reduceGE, Nat.reduceEqDiff, Nat.reduceAdd, Nat.reduceMul, Nat.reduceLeDiff, Nat.reduceSub, Nat.reduceLT, Nat.reduceBEq, ↓reduceIte, reduceCtorEq, ← decide_not, okind, vpre, vpure, intBin, intPre, strBin, strPre, popTo, argSlots, fldV, fldAV, subCells, idxVV, idxAAV, idxSV, sliceV, sliceSV, boundV, szIs, storeOp, storeS, setRowV, eff, extV, buildV, splice, eqSV, fitsL, eqCells, eqCell, minmaxV, capV, binBV, nilCheckV, bytesV, V.cells, V.stays, a1]
  refine effR_new fun id4 σ3 s3 a4 f4 => ?_
  have n14 := ne_new a1 f4
  have n34 := ne_new a3 f4
  have a1 := s3 _ _ a1
  have a3 := s3 _ _ a3
  have hs : SubStore σ σ3 := (s1.trans s2).trans s3
  have g3 : σ id3 = none := s1.none f3
  have g4 : σ id4 = none := (s1.trans s2).none f4
  simp -implicitDefEqProofs only [BB, Int.reduceEq, Int.reduceNe, Int.reduceLT, Int.reduceLE, Int.reduceGT, Int.reduceGE, Nat.reduceEqDiff, Nat.reduceAdd, Nat.reduceMul, Nat.reduceLeDiff, Nat.reduceSub, Nat.reduceLT, Nat.reduceBEq, ↓reduceIte, reduceCtorEq, ← decide_not, okind, vpre, vpure, intBin, intPre, strBin, strPre, popTo, argSlots, fldV, fldAV, subCells, idxVV, idxAAV, idxSV, sliceV, sliceSV, boundV, szIs, storeOp, storeS, setRowV, eff, extV, buildV, splice, eqSV, fitsL, eqCells, eqCell, minmaxV, capV, binBV, nilCheckV, bytesV, V.cells, V.stays, a1, a3, a4, upd_ne n34, upd_ne n34.symm, upd_ne n13, upd_ne n14]
  have hs' := fun o o' => (hs.updK (o := o) g3).updK (o := o') g4
  refine effR_new fun id5 σ4 s4 a5 f5 => ?_
  have a1 := s4 id1 _ (by rw [upd_ne n14, upd_ne n13]; exact a1)
  have a4 := s4 id4 _ upd_same
  have hs := (hs' _ _).trans s4
  simp -implicitDefEqProofs only [BB, Int.reduceEq, Int.reduceNe, Int.reduceLT, Int.reduceLE, Int.reduceGT, Int.reduceGE, Nat.reduceEqDiff, Nat.reduceAdd, Nat.reduceMul, Nat.reduceLeDiff, Nat.reduceSub, Nat.reduceLT, Nat.reduceBEq, ↓reduceIte, reduceCtorEq, ← decide_not, okind, vpre, vpure, intBin, intPre, strBin, strPre, popTo, argSlots, fldV, fldAV, subCells, idxVV, idxAAV, idxSV, sliceV, sliceSV, boundV, szIs, storeOp, storeS, setRowV, eff, extV, buildV, splice, eqSV, fitsL, eqCells, eqCell, minmaxV, capV, binBV, nilCheckV, bytesV, V.cells, V.stays, a1, a4, a5, O10_65, readInts_own, intsOf_int, intsOf_nil, isFrom, ← Bool.decide_and]
  refine And.intro (fun p0 => ?_) (fun p0 => RetV.pure hs (by rw [V.bool.injEq]; symm; rw [Bool.eq_false_iff]; intro h; simp [Sty.ok, isFrom, mx] at h; omega))
  refine effR_new fun id6 σ5 s5 a6 f6 => ?_
  have a1 := s5 _ _ a1
  have hs := hs.trans s5
  simp -implicitDefEqProofs only [BB, Int.reduceEq, Int.reduceNe, Int.reduceLT, Int.reduceLE, Int.reduceGT, Int.reduceGE, Nat.reduceEqDiff, Nat.reduceAdd, Nat.reduceMul, Nat.reduceLeDiff, Nat.reduceSub, Nat.reduceLT, Nat.reduceBEq, ↓reduceIte, reduceCtorEq, ← decide_not, okind, vpre, vpure, intBin, intPre, strBin, strPre, popTo, argSlots, fldV, fldAV, subCells, idxVV, idxAAV, idxSV, sliceV, sliceSV, boundV, szIs, storeOp, storeS, setRowV, eff, extV, buildV, splice, eqSV, fitsL, eqCells, eqCell, minmaxV, capV, binBV, nilCheckV, bytesV, V.cells, V.stays, a1, a6, O10_65, readInts_own, intsOf_int, intsOf_nil, isFrom, ← Bool.decide_and]
  refine And.intro (fun p1 => ?_) (fun p1 => RetV.pure hs (by rw [V.bool.injEq]; symm; rw [Bool.eq_false_iff]; intro h; simp [Sty.ok, isFrom, mx] at h; omega))
  refine effR_new fun id7 σ6 s6 a7 f7 => ?_
  have a1 := s6 _ _ a1
  have hs := hs.trans s6
  simp -implicitDefEqProofs only [BB, Int.reduceEq, Int.reduceNe, Int.reduceLT, Int.reduceLE, Int.reduceGT, Int.reduceGE, Nat.reduceEqDiff, Nat.reduceAdd, Nat.reduceMul, Nat.reduceLeDiff, Nat.reduceSub, Nat.reduceLT, Nat.reduceBEq, ↓reduceIte, reduceCtorEq, ← decide_not, okind, vpre, vpure, intBin, intPre, strBin, strPre, popTo, argSlots, fldV, fldAV, subCells, idxVV, idxAAV, idxSV, sliceV, sliceSV, boundV, szIs, storeOp, storeS, setRowV, eff, extV, buildV, splice, eqSV, fitsL, eqCells, eqCell, minmaxV, capV, binBV, nilCheckV, bytesV, V.cells, V.stays, a1, a7, O10_65, readInts_own, intsOf_int, intsOf_nil, isFrom, ← Bool.decide_and]
  refine And.intro (fun p2 => ?_) (fun p2 => RetV.pure hs (by rw [V.bool.injEq]; symm; rw [Bool.eq_false_iff]; intro h; simp [Sty.ok, isFrom, mx] at h; omega))
  refine effR_new fun id8 σ7 s7 a8 f8 => ?_
  have a1 := s7 _ _ a1
  have hs := hs.trans s7
  simp -implicitDefEqProofs only [BB, Int.reduceEq, Int.reduceNe, Int.reduceLT, Int.reduceLE, Int.reduceGT, Int.reduceGE, Nat.reduceEqDiff, Nat.reduceAdd, Nat.reduceMul, Nat.reduceLeDiff, Nat.reduceSub, Nat.reduceLT, Nat.reduceBEq, ↓reduceIte, reduceCtorEq, ← decide_not, okind, vpre, vpure, intBin, intPre, strBin, strPre, popTo, argSlots, fldV, fldAV, subCells, idxVV, idxAAV, idxSV, sliceV, sliceSV, boundV, szIs, storeOp, storeS, setRowV, eff, extV, buildV, splice, eqSV, fitsL, eqCells, eqCell, minmaxV, capV, binBV, nilCheckV, bytesV, V.cells, V.stays, a1, a8, O10_65, readInts_own, intsOf_int, intsOf_nil, isFrom, ← Bool.decide_and]
  refine And.intro (fun p3 => ?_) (fun p3 => RetV.pure hs (by rw [V.bool.injEq]; symm; rw [Bool.eq_false_iff]; intro h; simp [Sty.ok, isFrom, mx] at h; omega))
  refine effR_new fun id9 σ8 s8 a9 f9 => ?_
  have a1 := s8 _ _ a1
  have hs := hs.trans s8
  simp -implicitDefEqProofs only [BB, Int.reduceEq, Int.reduceNe, Int.reduceLT, Int.reduceLE, Int.reduceGT, Int.reduceGE, Nat.reduceEqDiff, Nat.reduceAdd, Nat.reduceMul, Nat.reduceLeDiff, Nat.reduceSub, Nat.reduceLT, Nat.reduceBEq, ↓reduceIte, reduceCtorEq, ← decide_not, okind, vpre, vpure, intBin, intPre, strBin, strPre, popTo, argSlots, fldV, fldAV, subCells, idxVV, idxAAV, idxSV, sliceV, sliceSV, boundV, szIs, storeOp, storeS, setRowV, eff, extV, buildV, splice, eqSV, fitsL, eqCells, eqCell, minmaxV, capV, binBV, nilCheckV, bytesV, V.cells, V.stays, a1, a9, O10_65, readInts_own, intsOf_int, intsOf_nil, isFrom, ← Bool.decide_and]
  refine RetV.pure hs ?_
  rw [V.bool.injEq, Bool.eq_iff_iff]
  simp [Sty.ok, isFrom, mx]
  omega
end Go.Vc
namespace Go.Vc
open Go.Proofs
def o12 (f : FuncId) (args : List V) (σ : Store) : Option V := if f = 65 then (match args with
  | [.agg [.int .i64 a, .int .i64 b], sv] => (readInts σ sv).map fun l => .bool (l.all fun n => isFrom n a b)
  | _ => none) else if f = 64 then (match args with
  | [.agg [.int .i64 a, .int .i64 b, .int .i64 c, .int .i64 d, .int .i64 e, .int .i64 f, .int .i64 g, .int .i64 h, .int .i64 i, .int .i64 j, .int .i64 k, .int .i64 l]] => some (.bool (Sty.ok ⟨a, b, c, d, e, f, g, h, i, j, k, l⟩))
  | _ => none) else none
def O12 : Orc Try.prog where
  get := o12
  up f args σ σ' v hs h := by
    unfold o12 at h ⊢
    split at h
    · rename_i hf
      rw [if_pos hf]
      split at h
      · simp only [Option.map_eq_some_iff] at h ⊢
        obtain ⟨l, h1, h2⟩ := h
        exact ⟨l, readInts_mono hs h1, h2⟩
      · cases h
    · rename_i hf
      rw [if_neg hf]
      exact h
  ok f args σ v h := by
    unfold o12 at h
    split at h
    · rename_i hf
      subst hf
      split at h
      · simp only [Option.map_eq_some_iff] at h
        obtain ⟨l, h1, rfl⟩ := h
        obtain ⟨g1, g2⟩ := readInts_reads h1
        exact has_c g1 g2
      · cases h
    · split at h
      · rename_i hf
        subst hf
        split at h
        · simp only [Option.some.injEq] at h
          subst h
          exact styled_c ⟨_, _, _, _, _, _, _, _, _, _, _, _⟩ σ
        · cases h
      · cases h
theorem O12_65 (a b : Int) (sv : V) (σ : Store) : O12.get 65 [.agg [.int .i64 a, .int .i64 b], sv] σ = (readInts σ sv).map fun l => .bool (l.all fun n => isFrom n a b) := rfl
theorem O12_64 (a b c d e f g h i j k l : Int) (σ : Store) : O12.get 64 [.agg [.int .i64 a, .int .i64 b, .int .i64 c, .int .i64 d, .int .i64 e, .int .i64 f, .int .i64 g, .int .i64 h, .int .i64 i, .int .i64 j, .int .i64 k, .int .i64 l]] σ =
  some (.bool (Sty.ok ⟨a, b, c, d, e, f, g, h, i, j, k, l⟩)) := rfl
theorem isZero_eq (s : Sty) : (decide (s.top = 0) && (decide (s.bottom = 0) && (decide (s.padTop = 0) && (decide (s.padBottom = 0) && (decide (s.inset = 0) && (decide (s.orphans = 0) && (decide (s.widows = 0) && (decide (s.head = 0) &&
    (decide (s.before = 0) && (decide (s.after = 0) && (decide (s.inside = 0) && decide (s.clear = 0)))))))))))) = decide (s = Sty.zero) := by
  rw [Bool.eq_iff_iff]
  cases s
  simp [Sty.zero]
set_option maxRecDepth 100000 in
theorem fits_c4 (x : Nd) (hl : x.words.length ≤ 200000000000000) (k4 : x.kind = 4) : PFun Try.prog 35 [encN x] (.bool x.ok) := fun σ => by
  refine Contract.of_runs Try.func35 e35 k35 (by simp [c35]) ?_
  refine Runs.mix 6 ?_
  (refine Runs.of_step O12 300 ?_; simp -implicitDefEqProofs only [BB, Int.reduceEq, Int.reduceNe, Int.reduceLT, Int.reduceLE, Int.reduceGT, Int.reduceGE, Nat.reduceEqDiff, Nat.reduceAdd, Nat.reduceMul, Nat.reduceLeDiff, Nat.reduceSub, Nat.reduceLT, Nat.reduceBEq, ↓reduceIte, reduceCtorEq, ← decide_not, okind, vpre, vpure, intBin, intPre, strBin, strPre, popTo, argSlots, fldV, fldAV, subCells, idxVV, idxAAV, idxSV, sliceV, sliceSV, boundV, szIs, storeOp, storeS, setRowV, eff, extV, buildV, splice, eqSV, fitsL, eqCells, eqCell, minmaxV, capV, binBV, nilCheckV, bytesV, V.cells, V.stays, c35, encN, Nd.cells])
  refine effR_new fun id1 σ1 s1 a1 f1 => ?_
  simp -implicitDefEqProofs only [BB, Int.reduceEq, Int.reduceNe, Int.reduceLT, Int.reduceLE, Int.reduceGT, Int.reduceGE, Nat.reduceEqDiff, Nat.reduceAdd, Nat.reduceMul, Nat.reduceLeDiff, Nat.reduceSub, Nat.reduceLT, Nat.reduceBEq, ↓reduceIte, reduceCtorEq, ← decide_not, okind, vpre, vpure, intBin, intPre, strBin, strPre, popTo, argSlots, fldV, fldAV, subCells, idxVV, idxAAV, idxSV, sliceV, sliceSV, boundV, szIs, storeOp, storeS, setRowV, eff, extV, buildV, splice, eqSV, fitsL, eqCells, eqCell, minmaxV, capV, binBV, nilCheckV, bytesV, V.cells, V.stays, a1]
  refine effR_new fun id3 σ2 s2 a3 f3 => ?_
  have n13 := ne_new a1 f3
  have a1 := s2 _ _ a1
  have hs := (s1.trans s2).updK (s1.none f3) (o := ⟨103, 2, [.agg [vI 1, vI 1099511627776]]⟩)
  have hok3 : x.ok = (decide (x.st = Sty.zero) && (decide (x.line = 0) && decide (x.space = 0) && decide (x.words.length = 0) && isFrom x.w 1 mx && isFrom x.h 1 mx && isFrom x.side 1 2)) := by
    by_cases hst : x.st = Sty.zero <;> simp [Nd.ok, k4, hst]
  simp -implicitDefEqProofs only [BB, Int.reduceEq, Int.reduceNe, Int.reduceLT, Int.reduceLE, Int.reduceGT, Int.reduceGE, Nat.reduceEqDiff, Nat.reduceAdd, Nat.reduceMul, Nat.reduceLeDiff, Nat.reduceSub, Nat.reduceLT, Nat.reduceBEq, ↓reduceIte, reduceCtorEq, ← decide_not, okind, vpre, vpure, intBin, intPre, strBin, strPre, popTo, argSlots, fldV, fldAV, subCells, idxVV, idxAAV, idxSV, sliceV, sliceSV, boundV, szIs, storeOp, storeS, setRowV, eff, extV, buildV, splice, eqSV, fitsL, eqCells, eqCell, minmaxV, capV, binBV, nilCheckV, bytesV, V.cells, V.stays, a1, a3, upd_ne n13, isZero_eq, lenV_encI, k4, O12_64, cR_b, upd_same]
  refine And.intro (fun e1 => And.intro (fun e2 => And.intro (fun z => And.intro (fun w => ?_) (fun w => ?_)) (fun z => ?_)) (fun e2 => ?_)) (fun e1 => ?_)
  · refine effR_new fun id4 σ3 s3 a4 f4 => ?_
    have a1 := s3 id1 _ (by rw [upd_ne n13]; exact a1)
    have a3 := s3 id3 _ upd_same
    have hs := hs.trans s3
    simp -implicitDefEqProofs only [BB, Int.reduceEq, Int.reduceNe, Int.reduceLT, Int.reduceLE, Int.reduceGT, Int.reduceGE, Nat.reduceEqDiff, Nat.reduceAdd, Nat.reduceMul, Nat.reduceLeDiff, Nat.reduceSub, Nat.reduceLT, Nat.reduceBEq, ↓reduceIte, reduceCtorEq, ← decide_not, okind, vpre, vpure, intBin, intPre, strBin, strPre, popTo, argSlots, fldV, fldAV, subCells, idxVV, idxAAV, idxSV, sliceV, sliceSV, boundV, szIs, storeOp, storeS, setRowV, eff, extV, buildV, splice, eqSV, fitsL, eqCells, eqCell, minmaxV, capV, binBV, nilCheckV, bytesV, V.cells, V.stays, a1, a3, a4, O12_65, readInts_own, intsOf_int, intsOf_nil, isFrom, List.all_cons, List.all_nil, ← Bool.decide_and]
    refine And.intro (fun q1 => ?_) (fun q1 => RetV.pure hs ?_)
    · refine effR_new fun id5 σ4 s4 a5 f5 => ?_
      have a1 := s4 _ _ a1
      have hs := hs.trans s4
      simp -implicitDefEqProofs only [BB, Int.reduceEq, Int.reduceNe, Int.reduceLT, Int.reduceLE, Int.reduceGT, Int.reduceGE, Nat.reduceEqDiff, Nat.reduceAdd, Nat.reduceMul, Nat.reduceLeDiff, Nat.reduceSub, Nat.reduceLT, Nat.reduceBEq, ↓reduceIte, reduceCtorEq, ← decide_not, okind, vpre, vpure, intBin, intPre, strBin, strPre, popTo, argSlots, fldV, fldAV, subCells, idxVV, idxAAV, idxSV, sliceV, sliceSV, boundV, szIs, storeOp, storeS, setRowV, eff, extV, buildV, splice, eqSV, fitsL, eqCells, eqCell, minmaxV, capV, binBV, nilCheckV, bytesV, V.cells, V.stays, a1, a5, O12_65, readInts_own, intsOf_int, intsOf_nil, isFrom, List.all_cons, List.all_nil, ← Bool.decide_and]
      refine RetV.pure hs ?_
      rw [V.bool.injEq, hok3, Bool.eq_iff_iff]
      simp only [isFrom, mx]
      simp at w
      simp [e1, e2, z, w]
      omega
    · rw [V.bool.injEq, hok3, Bool.eq_iff_iff]
      simp only [isFrom, mx]
      simp [e1, e2, z]
      omega
  all_goals (repeat' (first
    | with_reducible refine And.intro (fun h => ?_) (fun h => ?_)
    | with_reducible refine RetV.pure hs ?_))
  all_goals (rw [V.bool.injEq, hok3, Bool.eq_iff_iff]; simp_all)
set_option maxRecDepth 100000 in
theorem fits_c (x : Nd) (hl : x.words.length ≤ 200000000000000) : PFun Try.prog 35 [encN x] (.bool x.ok) := fun σ => by
  by_cases k4 : x.kind = 4
  · exact fits_c4 x hl k4 σ
  refine Contract.of_runs Try.func35 e35 k35 (by simp [c35]) ?_
  refine Runs.mix 6 ?_
  (refine Runs.of_step O12 300 ?_; simp -implicitDefEqProofs only [BB, Int.reduceEq, Int.reduceNe, Int.reduceLT, Int.reduceLE, Int.reduceGT, Int.reduceGE, Nat.reduceEqDiff, Nat.reduceAdd, Nat.reduceMul, Nat.reduceLeDiff, Nat.reduceSub, Nat.reduceLT, Nat.reduceBEq, ↓reduceIte, reduceCtorEq, ← decide_not, okind, vpre, vpure, intBin, intPre, strBin, strPre, popTo, argSlots, fldV, fldAV, subCells, idxVV, idxAAV, idxSV, sliceV, sliceSV, boundV, szIs, storeOp, storeS, setRowV, eff, extV, buildV, splice, eqSV, fitsL, eqCells, eqCell, minmaxV, capV, binBV, nilCheckV, bytesV, V.cells, V.stays, c35, encN, Nd.cells])
  refine effR_new fun id1 σ1 s1 a1 f1 => ?_
  simp -implicitDefEqProofs only [BB, Int.reduceEq, Int.reduceNe, Int.reduceLT, Int.reduceLE, Int.reduceGT, Int.reduceGE, Nat.reduceEqDiff, Nat.reduceAdd, Nat.reduceMul, Nat.reduceLeDiff, Nat.reduceSub, Nat.reduceLT, Nat.reduceBEq, ↓reduceIte, reduceCtorEq, ← decide_not, okind, vpre, vpure, intBin, intPre, strBin, strPre, popTo, argSlots, fldV, fldAV, subCells, idxVV, idxAAV, idxSV, sliceV, sliceSV, boundV, szIs, storeOp, storeS, setRowV, eff, extV, buildV, splice, eqSV, fitsL, eqCells, eqCell, minmaxV, capV, binBV, nilCheckV, bytesV, V.cells, V.stays, a1]
  refine effR_new fun id3 σ2 s2 a3 f3 => ?_
  have n13 := ne_new a1 f3
  have a1 := s2 _ _ a1
  have hs := (s1.trans s2).updK (s1.none f3) (o := ⟨103, 2, [.agg [vI 1, vI 1099511627776]]⟩)
  have hz : (x.kind = 1 → x.ok = (x.st.ok && decide (x.line = 0) && decide (x.space = 0) && decide (x.words.length = 0) && decide (x.side = 0) && decide (x.w = 0) && decide (x.h = 0))) := fun h => by simp [Nd.ok, h]
  have hwl : x.words.length ≤ 200000000000000 := by omega
  by_cases k1 : x.kind = 1
  · simp -implicitDefEqProofs only [BB, Int.reduceEq, Int.reduceNe, Int.reduceLT, Int.reduceLE, Int.reduceGT, Int.reduceGE, Nat.reduceEqDiff, Nat.reduceAdd, Nat.reduceMul, Nat.reduceLeDiff, Nat.reduceSub, Nat.reduceLT, Nat.reduceBEq, ↓reduceIte, reduceCtorEq, ← decide_not, okind, vpre, vpure, intBin, intPre, strBin, strPre, popTo, argSlots, fldV, fldAV, subCells, idxVV, idxAAV, idxSV, sliceV, sliceSV, boundV, szIs, storeOp, storeS, setRowV, eff, extV, buildV, splice, eqSV, fitsL, eqCells, eqCell, minmaxV, capV, binBV, nilCheckV, bytesV, V.cells, V.stays, a1, a3, upd_ne n13, isZero_eq, lenV_encI, k1, O12_64, cR_b]
    rw [hz k1]
    repeat' (first
      | with_reducible refine And.intro (fun h => ?_) (fun h => ?_)
      | with_reducible refine RetV.pure hs ?_)
    all_goals (rw [V.bool.injEq, Bool.eq_iff_iff]; simp_all)
  · by_cases k2 : x.kind = 2
    · by_cases e1 : x.line = 0
      · have hok0 : x.ok = false := by
          by_cases hst : x.st = Sty.zero <;> simp [Nd.ok, k2, hst, e1, isFrom]
        rw [hok0]
        simp -implicitDefEqProofs only [BB, Int.reduceEq, Int.reduceNe, Int.reduceLT, Int.reduceLE, Int.reduceGT, Int.reduceGE, Nat.reduceEqDiff, Nat.reduceAdd, Nat.reduceMul, Nat.reduceLeDiff, Nat.reduceSub, Nat.reduceLT, Nat.reduceBEq, ↓reduceIte, reduceCtorEq, ← decide_not, okind, vpre, vpure, intBin, intPre, strBin, strPre, popTo, argSlots, fldV, fldAV, subCells, idxVV, idxAAV, idxSV, sliceV, sliceSV, boundV, szIs, storeOp, storeS, setRowV, eff, extV, buildV, splice, eqSV, fitsL, eqCells, eqCell, minmaxV, capV, binBV, nilCheckV, bytesV, V.cells, V.stays, a1, a3, upd_ne n13, isZero_eq, lenV_encI, k1, k2, e1, O12_64, cR_b, upd_same]
        repeat' (first
          | with_reducible refine And.intro (fun h => ?_) (fun h => ?_)
          | with_reducible refine RetV.pure hs rfl
          | (refine effR_new fun id4 σ3 s3 a4 f4 => ?_
             have a1 := s3 id1 _ (by rw [upd_ne n13]; exact a1)
             have a3 := s3 id3 _ upd_same
             simp -implicitDefEqProofs only [BB, Int.reduceEq, Int.reduceNe, Int.reduceLT, Int.reduceLE, Int.reduceGT, Int.reduceGE, Nat.reduceEqDiff, Nat.reduceAdd, Nat.reduceMul, Nat.reduceLeDiff, Nat.reduceSub, Nat.reduceLT, Nat.reduceBEq, ↓reduceIte, reduceCtorEq, ← decide_not, okind, vpre, vpure, intBin, intPre, strBin, strPre, popTo, argSlots, fldV, fldAV, subCells, idxVV, idxAAV, idxSV, sliceV, sliceSV, boundV, szIs, storeOp, storeS, setRowV, eff, extV, buildV, splice, eqSV, fitsL, eqCells, eqCell, minmaxV, capV, binBV, nilCheckV, bytesV, V.cells, V.stays, a1, a3, a4, O12_65, readInts_own, intsOf_int, intsOf_nil, isFrom, List.all_cons, List.all_nil, false_and]
             exact RetV.pure (hs.trans s3) rfl))
      · simp -implicitDefEqProofs only [BB, Int.reduceEq, Int.reduceNe, Int.reduceLT, Int.reduceLE, Int.reduceGT, Int.reduceGE, Nat.reduceEqDiff, Nat.reduceAdd, Nat.reduceMul, Nat.reduceLeDiff, Nat.reduceSub, Nat.reduceLT, Nat.reduceBEq, ↓reduceIte, reduceCtorEq, ← decide_not, okind, vpre, vpure, intBin, intPre, strBin, strPre, popTo, argSlots, fldV, fldAV, subCells, idxVV, idxAAV, idxSV, sliceV, sliceSV, boundV, szIs, storeOp, storeS, setRowV, eff, extV, buildV, splice, eqSV, fitsL, eqCells, eqCell, minmaxV, capV, binBV, nilCheckV, bytesV, V.cells, V.stays, a1, a3, upd_ne n13, isZero_eq, lenV_encI, k1, k2, e1, O12_64, cR_b, upd_same]
        have hok2 : x.ok = (decide (x.st = Sty.zero) && (x.words.all (isFrom · 1 mx) && decide (0 < x.words.length) && isFrom x.line 1 mx && isFrom x.space 0 mx && decide (x.side = 0) && decide (x.w = 0) && decide (x.h = 0))) := by
          by_cases hst : x.st = Sty.zero <;> simp [Nd.ok, k2, hst]
        refine And.intro (fun z => ?_) (fun z => RetV.pure hs (by rw [hok2]; simp_all))
        refine And.intro (fun w1 => ?_) (fun w1 => RetV.pure hs (by rw [hok2]; simp [w1]))
        refine And.intro (fun w2 => ?_) (fun w2 => RetV.pure hs (by rw [hok2]; simp [w2]))
        refine And.intro (fun w3 => ?_) (fun w3 => RetV.pure hs (by rw [hok2]; simp [w3]))
        refine effR_new fun id4 σ3 s3 a4 f4 => ?_
        have a1 := s3 id1 _ (by rw [upd_ne n13]; exact a1)
        have a3 := s3 id3 _ upd_same
        have hs := hs.trans s3
        simp -implicitDefEqProofs only [BB, Int.reduceEq, Int.reduceNe, Int.reduceLT, Int.reduceLE, Int.reduceGT, Int.reduceGE, Nat.reduceEqDiff, Nat.reduceAdd, Nat.reduceMul, Nat.reduceLeDiff, Nat.reduceSub, Nat.reduceLT, Nat.reduceBEq, ↓reduceIte, reduceCtorEq, ← decide_not, okind, vpre, vpure, intBin, intPre, strBin, strPre, popTo, argSlots, fldV, fldAV, subCells, idxVV, idxAAV, idxSV, sliceV, sliceSV, boundV, szIs, storeOp, storeS, setRowV, eff, extV, buildV, splice, eqSV, fitsL, eqCells, eqCell, minmaxV, capV, binBV, nilCheckV, bytesV, V.cells, V.stays, a1, a3, a4, O12_65, readInts_own, intsOf_int, intsOf_nil, readInts_encI _ hwl, cR_b, dec_true (List.all _ _)]
        refine And.intro (fun q1 => ?_) (fun q1 => RetV.pure hs (by rw [hok2]; simp [mx] at q1 ⊢; simp [q1]))
        refine And.intro (fun q2 => ?_) (fun q2 => RetV.pure hs (by rw [hok2]; simp only [mx, q2]; simp))
        refine effR_new fun id5 σ4 s4 a5 f5 => ?_
        have a1 := s4 _ _ a1
        have hs := hs.trans s4
        simp -implicitDefEqProofs only [BB, Int.reduceEq, Int.reduceNe, Int.reduceLT, Int.reduceLE, Int.reduceGT, Int.reduceGE, Nat.reduceEqDiff, Nat.reduceAdd, Nat.reduceMul, Nat.reduceLeDiff, Nat.reduceSub, Nat.reduceLT, Nat.reduceBEq, ↓reduceIte, reduceCtorEq, ← decide_not, okind, vpre, vpure, intBin, intPre, strBin, strPre, popTo, argSlots, fldV, fldAV, subCells, idxVV, idxAAV, idxSV, sliceV, sliceSV, boundV, szIs, storeOp, storeS, setRowV, eff, extV, buildV, splice, eqSV, fitsL, eqCells, eqCell, minmaxV, capV, binBV, nilCheckV, bytesV, V.cells, V.stays, a1, a5, O12_65, readInts_own, intsOf_int, intsOf_nil, readInts_encI _ hwl, cR_b, lenV_encI, dec_true (List.all _ _)]
        refine And.intro (fun q3 => ?_) (fun q3 => RetV.pure hs (by rw [hok2]; simp [mx] at q3 ⊢; simp [q3]))
        refine RetV.pure hs ?_
        rw [hok2]
        simp only [mx, q1, q2, q3, z, w1, w2, w3]
        simp
    · have hok3 : x.ok = (decide (x.st = Sty.zero) && (decide (x.line = 0) && decide (x.space = 0) && decide (x.words.length = 0) && isFrom x.w 1 mx && isFrom x.h 1 mx &&
          (decide (x.kind = 3) && decide (x.side = 0) || decide (x.kind = 4) && isFrom x.side 1 2))) := by
        by_cases hst : x.st = Sty.zero <;> simp [Nd.ok, k1, k2, hst]
      by_cases k3 : x.kind = 3
      · simp -implicitDefEqProofs only [BB, Int.reduceEq, Int.reduceNe, Int.reduceLT, Int.reduceLE, Int.reduceGT, Int.reduceGE, Nat.reduceEqDiff, Nat.reduceAdd, Nat.reduceMul, Nat.reduceLeDiff, Nat.reduceSub, Nat.reduceLT, Nat.reduceBEq, ↓reduceIte, reduceCtorEq, ← decide_not, okind, vpre, vpure, intBin, intPre, strBin, strPre, popTo, argSlots, fldV, fldAV, subCells, idxVV, idxAAV, idxSV, sliceV, sliceSV, boundV, szIs, storeOp, storeS, setRowV, eff, extV, buildV, splice, eqSV, fitsL, eqCells, eqCell, minmaxV, capV, binBV, nilCheckV, bytesV, V.cells, V.stays, a1, a3, upd_ne n13, isZero_eq, lenV_encI, k1, k2, k3, O12_64, cR_b, upd_same]
        repeat' (first
          | with_reducible refine And.intro (fun h => ?_) (fun h => ?_)
          | with_reducible refine RetV.pure hs ?_
          | (refine effR_new fun id4 σ3 s3 a4 f4 => ?_
             have a1 := s3 id1 _ (by rw [upd_ne n13]; exact a1)
             have a3 := s3 id3 _ upd_same
             simp -implicitDefEqProofs only [BB, Int.reduceEq, Int.reduceNe, Int.reduceLT, Int.reduceLE, Int.reduceGT, Int.reduceGE, Nat.reduceEqDiff, Nat.reduceAdd, Nat.reduceMul, Nat.reduceLeDiff, Nat.reduceSub, Nat.reduceLT, Nat.reduceBEq, ↓reduceIte, reduceCtorEq, ← decide_not, okind, vpre, vpure, intBin, intPre, strBin, strPre, popTo, argSlots, fldV, fldAV, subCells, idxVV, idxAAV, idxSV, sliceV, sliceSV, boundV, szIs, storeOp, storeS, setRowV, eff, extV, buildV, splice, eqSV, fitsL, eqCells, eqCell, minmaxV, capV, binBV, nilCheckV, bytesV, V.cells, V.stays, a1, a3, a4, O12_65, readInts_own, intsOf_int, intsOf_nil, isFrom, List.all_cons, List.all_nil, ← Bool.decide_and]
             refine RetV.pure (hs.trans s3) ?_))
        all_goals (rw [V.bool.injEq, hok3, Bool.eq_iff_iff]; simp_all [isFrom, mx] <;> omega)
      · simp -implicitDefEqProofs only [BB, Int.reduceEq, Int.reduceNe, Int.reduceLT, Int.reduceLE, Int.reduceGT, Int.reduceGE, Nat.reduceEqDiff, Nat.reduceAdd, Nat.reduceMul, Nat.reduceLeDiff, Nat.reduceSub, Nat.reduceLT, Nat.reduceBEq, ↓reduceIte, reduceCtorEq, ← decide_not, okind, vpre, vpure, intBin, intPre, strBin, strPre, popTo, argSlots, fldV, fldAV, subCells, idxVV, idxAAV, idxSV, sliceV, sliceSV, boundV, szIs, storeOp, storeS, setRowV, eff, extV, buildV, splice, eqSV, fitsL, eqCells, eqCell, minmaxV, capV, binBV, nilCheckV, bytesV, V.cells, V.stays, a1, a3, upd_ne n13, isZero_eq, lenV_encI, k1, k2, k3, k4, O12_64, cR_b, upd_same]
        repeat' (first
          | with_reducible refine And.intro (fun h => ?_) (fun h => ?_)
          | with_reducible refine RetV.pure hs ?_)
        all_goals (rw [V.bool.injEq, hok3]; simp [k3, k4])
end Go.Vc
namespace Go.Vc
open Go.Proofs
/-- ends that are reached are taken away, but for the last one -/
def pops (i : Nat) : List Int → List Int
  | a :: b :: s => if a = i then pops i (b :: s) else a :: b :: s
  | s => s
def isS : List Nd → Nat → List Int → Bool
  | [], _, _ => true
  | x :: r, i, stk => match pops i stk with
    | [] => false
    | a :: s => if x.ok = true ∧ 1 ≤ x.size ∧ x.size ≤ a - i ∧ (x.kind = 1 ∨ x.size ≤ 1) then isS r (i + 1) ((i + x.size) :: a :: s) else false
/-- from lo on up to n -/
def Asc (n : Nat) : Nat → List Int → Prop
  | lo, [] => lo = n
  | lo, a :: s => (lo : Int) ≤ a ∧ Asc n a.toNat s
def chainB (l : List Nd) : Nat → List Int → Bool
  | _, [] => true
  | lo, a :: s => rowsB l lo a.toNat && chainB l a.toNat s
theorem rowsB_nil (l : List Nd) (a : Nat) : rowsB l a a = true := by rw [rowsB, dif_neg (Nat.lt_irrefl a)]
theorem pops_law (l : List Nd) (n i : Nat) (hi : i < n) : ∀ stk, Asc n i stk → ∃ a s, pops i stk = a :: s ∧ (i : Int) < a ∧ Asc n i (a :: s) ∧ chainB l i (a :: s) = chainB l i stk
  | [], h => by simp only [Asc] at h; omega
  | [a], h => by
    have h' := h
    simp only [Asc] at h'
    exact ⟨a, [], rfl, by omega, h, rfl⟩
  | a :: b :: s, h => by
    by_cases ha : a = i
    · have h' := h.2
      rw [ha, Int.toNat_natCast] at h'
      obtain ⟨c, t, g1, g2, g3, g4⟩ := pops_law l n i hi (b :: s) h'
      refine ⟨c, t, by simp [pops, ha, g1], g2, g3, ?_⟩
      rw [g4]
      show _ = (rowsB l i a.toNat && chainB l a.toNat (b :: s))
      rw [ha, Int.toNat_natCast, rowsB_nil, Bool.true_and]
    · have h' := h.1
      exact ⟨a, b :: s, by simp [pops, ha], by omega, h, rfl⟩
theorem isS_law (l : List Nd) : ∀ (r : List Nd) (i : Nat) (stk : List Int), l.drop i = r → Asc l.length i stk → isS r i stk = (r.all Nd.ok && chainB l i stk)
  | [], i, stk, hr, hs => by
    have hi : l.length ≤ i := by simpa using hr
    have key : ∀ (stk : List Int) (lo : Nat), l.length ≤ lo → Asc l.length lo stk → chainB l lo stk = true := by
      intro stk
      induction stk with
      | nil => intro _ _ _; rfl
      | cons a s ih =>
        intro lo hlo h
        have h1 := h.1
        simp only [chainB]
        rw [ih a.toNat (by omega) h.2, rowsB, Bool.and_true]
        split
        · have : l[lo]? = none := by simp [hlo]
          rw [this]
          -- past the end: only an empty row
          have hend : ∀ (stk : List Int) (lo : Nat), Asc l.length lo stk → lo ≤ l.length := by
            intro stk
            induction stk with
            | nil => intro lo h; simp only [Asc] at h; omega
            | cons b t ih => intro lo h; have := h.1; have := ih _ h.2; omega
          have := hend _ _ h.2
          omega
        · rfl
    simp [isS, key stk i hi hs]
  | x :: r, i, stk, hr, hs => by
    have hi : i < l.length := by
      rcases Nat.lt_or_ge i l.length with h | h
      · exact h
      · rw [List.drop_eq_nil_of_le h] at hr; cases hr
    have hx : l[i]? = some x := by
      have : (l.drop i)[0]? = some x := by rw [hr]; rfl
      simpa using this
    have hr' : l.drop (i + 1) = r := by
      have : (l.drop i).drop 1 = r := by rw [hr]; rfl
      simpa using this
    obtain ⟨a, s, h1, h2, h3, h4⟩ := pops_law l l.length i hi stk hs
    rw [isS, h1]
    simp only
    rw [← h4]
    simp only [chainB, List.all_cons]
    have hrow : rowsB l i a.toNat = if _hx : 1 ≤ x.size ∧ x.size ≤ (a.toNat : Int) - i then
        (decide (x.kind = 1) || decide (x.size ≤ 1)) && rowsB l (i + 1) (i + x.size.toNat) && rowsB l (i + x.size.toNat) a.toNat else false := by
      rw [rowsB, dif_pos (by omega), hx]
    rw [hrow]
    have hat : (a.toNat : Int) = a := by omega
    rw [hat]
    by_cases hc : 1 ≤ x.size ∧ x.size ≤ a - i
    · rw [dif_pos hc]
      have e : (i + x.size).toNat = i + x.size.toNat := by omega
      have ih := isS_law l r (i + 1) ((i + x.size) :: a :: s) hr' ⟨by omega, by rw [e]; omega, h3.2⟩
      by_cases hk : x.ok = true ∧ (x.kind = 1 ∨ x.size ≤ 1)
      · rw [if_pos ⟨hk.1, hc.1, hc.2, hk.2⟩, ih]
        simp only [chainB, e, hk.1, Bool.true_and]
        have : (decide (x.kind = 1) || decide (x.size ≤ 1)) = true := by simpa using hk.2
        rw [this, Bool.true_and, Bool.and_assoc]
      · rw [if_neg (fun h => hk ⟨h.1, h.2.2.2⟩)]
        symm
        rw [Bool.eq_false_iff]
        intro h
        simp only [Bool.and_eq_true, Bool.or_eq_true, decide_eq_true_eq] at h
        exact hk ⟨h.1.1, h.2.1.1.1⟩
    · rw [dif_neg hc, if_neg (fun h => hc ⟨h.2.1, h.2.2.1⟩)]
      simp
theorem isS_isB (l : List Nd) : isS l 0 [(l.length : Int)] = isB l := by
  rw [isS_law l l 0 [(l.length : Int)] rfl ⟨by omega, by simp [Asc]⟩]
  simp [chainB, isB]
end Go.Vc
namespace Go.Vc
open Go.Proofs
/-- a node's numbers, read -/
def o14 (f : FuncId) (args : List V) : Option V := if f = 35 then (match args with
  | [.agg [.int .i64 a0, .int .i64 a1, .int .i64 a2, .int .i64 a3, .int .i64 a4, .int .i64 a5, .int .i64 a6, .int .i64 a7, .int .i64 a8, .int .i64 a9, .int .i64 a10, .int .i64 a11, .int .i64 a12, .int .i64 a13, .int .i64 a14, .int .i64 a15, .sl 1 rows, .int .i64 a17, .int .i64 a18, .int .i64 a19]] =>
    (intsOf rows).bind fun ws => if ws.length ≤ 200000000000000 then some (.bool (Nd.ok ⟨a0, a1, ⟨a2, a3, a4, a5, a6, a7, a8, a9, a10, a11, a12, a13⟩, a14, a15, ws, a17, a18, a19⟩)) else none
  | _ => none) else none
def O14 : Orc Try.prog where
  get f args _ := o14 f args
  ok f args σ v h := by
    unfold o14 at h
    split at h
    · rename_i hf
      subst hf
      split at h
      · rw [Option.bind_eq_some_iff] at h
        obtain ⟨ws, h1, h2⟩ := h
        split at h2
        · rename_i hw
          simp only [Option.some.injEq] at h2
          subst h2
          rw [intsOf_eq h1]
          exact fits_c ⟨_, _, ⟨_, _, _, _, _, _, _, _, _, _, _, _⟩, _, _, ws, _, _, _⟩ hw σ
        · cases h2
      · cases h
    · cases h
theorem O14_35 {x : Nd} (hw : x.words.length ≤ 200000000000000) (σ : Store) : O14.get 35 [.agg [.int .i64 x.kind, .int .i64 x.size, .int .i64 x.st.top, .int .i64 x.st.bottom, .int .i64 x.st.padTop, .int .i64 x.st.padBottom, .int .i64 x.st.inset, .int .i64 x.st.orphans, .int .i64 x.st.widows, .int .i64 x.st.head, .int .i64 x.st.before, .int .i64 x.st.after, .int .i64 x.st.inside, .int .i64 x.st.clear, .int .i64 x.line, .int .i64 x.space, encI x.words, .int .i64 x.side, .int .i64 x.w, .int .i64 x.h]] σ =
    some (.bool x.ok) := by
  show ((intsOf (x.words.map vI)).bind fun ws => if ws.length ≤ 200000000000000 then some (V.bool (Nd.ok ⟨x.kind, x.size, ⟨x.st.top, x.st.bottom, x.st.padTop, x.st.padBottom, x.st.inset, x.st.orphans, x.st.widows, x.st.head, x.st.before, x.st.after, x.st.inside, x.st.clear⟩, x.line, x.space, ws, x.side, x.w, x.h⟩)) else none) = _
  rw [intsOf_map, Option.bind_some, if_pos hw]
theorem ends_top {rows : List V} {k : Nat} {a : Int} {s : List Int} (hk : k = (a :: s).length) (ht : rows.take k = (a :: s).reverse.map vI) : rows[k - 1]? = some (.int .i64 a) ∧ rows.take (k - 1) = s.reverse.map vI := by
  simp only [List.length_cons] at hk
  have h1 : (rows.take k)[k - 1]? = rows[k - 1]? := by rw [List.getElem?_take, if_pos (by omega)]
  constructor
  · rw [← h1, ht, hk]
    simp
  · have h2 : rows.take (k - 1) = (rows.take k).take (k - 1) := by rw [List.take_take]; congr 1; omega
    rw [h2, ht, hk]
    simp
theorem Asc.le {n : Nat} : ∀ {stk : List Int} {lo : Nat}, Asc n lo stk → lo ≤ n
  | [], lo, h => by simp only [Asc] at h; omega
  | a :: s, lo, h => by have h1 := h.1; have h2 := Asc.le h.2; omega
theorem SubStore.delK {σ0 σ : Store} {e : Nat} (h : SubStore σ0 σ) (he : σ0 e = Option.none) : SubStore σ0 (del σ e) := fun i x hx => by
  have hne : i ≠ e := fun e' => by rw [e', he] at hx; cases hx
  rw [del_ne hne]
  exact h i x hx
set_option maxRecDepth 100000 in
theorem isv_c (l : List Nd) (hl : Fine l) : PFun Try.prog 13 [encNs l] (.bool (isB l)) := fun σ => by
  have hl0 := hl
  obtain ⟨hl1, hl2⟩ := hl
  refine Contract.of_runs Try.func13 e13 k13 (by simp [c13]) ?_
  refine Runs.mix 6 ?_
  (refine Runs.of_step Orc.nothing 300 ?_; simp -implicitDefEqProofs only [BB, effR_some, effD_some, Int.reduceEq, Int.reduceNe, Int.reduceLT, Int.reduceLE, Int.reduceGT, Int.reduceGE, Nat.reduceEqDiff, Nat.reduceAdd, Nat.reduceMul, Nat.reduceLeDiff, Nat.reduceSub, Nat.reduceLT, Nat.reduceBEq, ↓reduceIte, reduceCtorEq, ← decide_not, okind, vpre, vpure, intBin, intPre, strBin, strPre, popTo, argSlots, fldV, fldAV, subCells, idxVV, idxAAV, idxSV, sliceV, sliceSV, boundV, szIs, storeOp, storeS, setRowV, eff, extV, buildV, splice, eqSV, fitsL, eqCells, eqCell, minmaxV, capV, binBV, nilCheckV, bytesV, V.cells, V.stays, Orc.nothing, c13, lenV_encNs])
  intro e0 he0
  refine Runs.loop (fun m st => ∃ i stk e k rows, i ≤ l.length ∧ m = l.length - i ∧ isB l = isS (l.drop i) i stk ∧ Asc l.length i stk ∧ stk ≠ [] ∧ stk.length ≤ i + 1 ∧ SubStore σ st.σ ∧ st.σ e = some ⟨3, 1, rows⟩ ∧ σ e = none ∧ k = stk.length ∧ k ≤ rows.length ∧ rows.take k = stk.reverse.map vI ∧
    st.s 3 = .own e 0 k ∧ st.s 9 = encNs l ∧ st.s 10 = vI l.length ∧ st.s 11 = vI i) l.length ?_ ?_
  · refine ⟨0, [(l.length : Int)], e0, 1, [vI l.length], by omega, by omega, by rw [← isS_isB]; rfl, ⟨by omega, by simp [Asc]⟩, by simp, by simp, (SubStore.refl σ).upd he0, upd_same, he0, rfl, by simp, rfl, rfl, rfl, rfl, rfl⟩
  · rintro m ⟨s, σ'⟩ ⟨i, stk, e, k, rows, hi, rfl, hB, hasc, hne, hsl, hsub, hrow, hnew, hk, hkr, htk, h3, h9, h10, h11⟩
    simp only at hsub hrow h3 h9 h10 h11
    refine Runs.mix 6 ?_
    (refine Runs.of_step Orc.nothing 300 ?_; simp -implicitDefEqProofs only [BB, effR_some, effD_some, Int.reduceEq, Int.reduceNe, Int.reduceLT, Int.reduceLE, Int.reduceGT, Int.reduceGE, Nat.reduceEqDiff, Nat.reduceAdd, Nat.reduceMul, Nat.reduceLeDiff, Nat.reduceSub, Nat.reduceLT, Nat.reduceBEq, ↓reduceIte, reduceCtorEq, ← decide_not, okind, vpre, vpure, intBin, intPre, strBin, strPre, popTo, argSlots, fldV, fldAV, subCells, idxVV, idxAAV, idxSV, sliceV, sliceSV, boundV, szIs, storeOp, storeS, setRowV, eff, extV, buildV, splice, eqSV, fitsL, eqCells, eqCell, minmaxV, capV, binBV, nilCheckV, bytesV, V.cells, V.stays, Orc.nothing, h3, h9, h10, h11])
    refine And.intro (fun hlt => ?_) (fun hge => ?_)
    · have hlt' : i < l.length := by simp at hlt; omega
      have hd : l.drop i = l[i] :: l.drop (i + 1) := List.drop_eq_getElem_cons hlt'
      have hxw : l[i].words.length ≤ 200000000000000 := hl2 _ (List.getElem_mem hlt')
      rw [hd] at hB
      generalize hxe : l[i] = x at *
      simp -implicitDefEqProofs only [BB, effR_some, effD_some, Int.reduceEq, Int.reduceNe, Int.reduceLT, Int.reduceLE, Int.reduceGT, Int.reduceGE, Nat.reduceEqDiff, Nat.reduceAdd, Nat.reduceMul, Nat.reduceLeDiff, Nat.reduceSub, Nat.reduceLT, Nat.reduceBEq, ↓reduceIte, reduceCtorEq, ← decide_not, okind, vpre, vpure, intBin, intPre, strBin, strPre, popTo, argSlots, fldV, fldAV, subCells, idxVV, idxAAV, idxSV, sliceV, sliceSV, boundV, szIs, storeOp, storeS, setRowV, eff, extV, buildV, splice, eqSV, fitsL, eqCells, eqCell, minmaxV, capV, binBV, nilCheckV, bytesV, V.cells, V.stays, idxAV_encNs hlt', hxe, loadV_rp_node, h3, h9, h10, h11, Nd.cells]
      intro id5 hid5
      replace hid5 : σ' id5 = none := hid5
      have n5e : e ≠ id5 := by rintro rfl; rw [hrow] at hid5; cases hid5
      have n5n : σ id5 = none := hsub.none hid5
      refine Runs.loop (fun m st => ∃ stk' k', m = stk'.length ∧ pops i stk = pops i stk' ∧ Asc l.length i stk' ∧ stk' ≠ [] ∧ stk'.length ≤ stk.length ∧ st.σ = upd σ' id5 ⟨28, 20, [.agg x.cells]⟩ ∧ k' = stk'.length ∧ k' ≤ rows.length ∧ rows.take k' = stk'.reverse.map vI ∧
        st.s 3 = .own e 0 k' ∧ st.s 4 = vI i ∧ st.s 5 = .ptr id5 0 0 ∧ st.s 9 = encNs l ∧ st.s 10 = vI l.length ∧ st.s 11 = vI i) stk.length ?_ ?_
      · exact ⟨stk, k, rfl, rfl, hasc, hne, Nat.le_refl _, rfl, hk, hkr, htk, h3, rfl, rfl, h9, h10, h11⟩
      · rintro m ⟨s, σ''⟩ ⟨stk', k', rfl, hpop, hasc', hne', hsl', hσ, hk', hkr', htk', h3, h4, h5, h9, h10, h11⟩
        simp only at hσ h3 h4 h5 h9 h10 h11
        subst hσ
        obtain ⟨a, tl, rfl⟩ := List.exists_cons_of_ne_nil hne'
        obtain ⟨htop, htk2⟩ := ends_top hk' htk'
        have hkpos : 1 ≤ k' := by rw [hk']; simp
        have g0 : (k' : Int) - 1 < k' := by omega
        have g1 : (0 : Int) ≤ (k' : Int) - 1 := by omega
        have g2 : (k' : Int) - 1 ≤ k' := by omega
        have g3 : ((k' : Int) - 1).toNat = k' - 1 := by omega
        have hrng : inR .i64 ((k' : Int) - 1) := inR_i64 (by omega) (by omega)
        refine Runs.mix 6 ?_
        (refine Runs.of_step O14 300 ?_; simp -implicitDefEqProofs only [BB, effR_some, effD_some, Int.reduceEq, Int.reduceNe, Int.reduceLT, Int.reduceLE, Int.reduceGT, Int.reduceGE, Nat.reduceEqDiff, Nat.reduceAdd, Nat.reduceMul, Nat.reduceLeDiff, Nat.reduceSub, Nat.reduceLT, Nat.reduceBEq, ↓reduceIte, reduceCtorEq, ← decide_not, okind, vpre, vpure, intBin, intPre, strBin, strPre, popTo, argSlots, fldV, fldAV, subCells, idxVV, idxAAV, idxSV, sliceV, sliceSV, boundV, szIs, storeOp, storeS, setRowV, eff, extV, buildV, splice, eqSV, fitsL, eqCells, eqCell, minmaxV, capV, binBV, nilCheckV, bytesV, V.cells, V.stays, h3, h4, h5, h9, h10, h11, upd_ne n5e, hrow, g0, g1, g2, g3, Int.le_refl, Int.toNat_zero, Nat.sub_zero, htop, cR_b, Nd.cells, O14_35 hxw, dec_true (Nd.ok x)])
        refine And.intro (fun h1 => ⟨hrng, And.intro (fun h2 => ?_) (fun h2 => ?_)⟩) (fun h1 => ?_)
        · obtain ⟨b, tl', rfl⟩ : ∃ b tl', tl = b :: tl' := by
            cases tl with
            | nil => simp at hk'; omega
            | cons b tl' => exact ⟨b, tl', rfl⟩
          have hp2 : pops i (a :: b :: tl') = pops i (b :: tl') := by simp [pops, h2]
          have ha2 := hasc'.2
          rw [h2, Int.toNat_natCast] at ha2
          refine ⟨hrng, _, ?_, b :: tl', k' - 1, rfl, by rw [hpop, hp2], ha2, by simp, ?_, ?_, by omega, htk2, rfl⟩
          · simp
          · simp only [List.length_cons] at hsl' ⊢; omega
          · simp only [List.length_cons] at hk' ⊢; omega
        all_goals
          have hps : pops i (a :: tl) = a :: tl := by
            cases tl with
            | nil => rfl
            | cons b tl' =>
              have : a ≠ i := by first
                | simpa using h2
                | (exfalso; simp at hk' h1; omega)
              simp [pops, this]
          obtain ⟨c, t, p1, p2, p3, p4⟩ := pops_law l l.length i hlt' (a :: tl) hasc'
          rw [hps, List.cons.injEq] at p1
          obtain ⟨rfl, rfl⟩ := p1
          have hIs : isB l = if x.ok = true ∧ 1 ≤ x.size ∧ x.size ≤ a - i ∧ (x.kind = 1 ∨ x.size ≤ 1) then isS (l.drop (i + 1)) (i + 1) ((i + x.size) :: a :: tl) else false := by
            rw [hB, isS, hpop, hps]
          have hale := Asc.le p3.2
          have hlenk : (rows.take k').length = k' := by simp; omega
          have hstk : k' ≤ i + 1 := by rw [hk']; omega
          have happ : x.ok = true ∧ 1 ≤ x.size ∧ x.size ≤ a - i ∧ (x.kind = 1 ∨ x.size ≤ 1) → ∀ (X Y : Ob) (id id1 : Nat), upd σ' id5 X id = none → upd (upd σ' id5 X) id Y id1 = none →
              isB l = isS (l.drop (i + 1)) (i + 1) ((i + x.size) :: a :: tl) ∧ Asc l.length (i + 1) ((i + x.size) :: a :: tl) ∧ SubStore σ (upd (del (upd (upd σ' id5 X) id Y) e) id1 ⟨3, 1, rows.take k' ++ [.int .i64 (i + x.size)]⟩) ∧ σ id1 = none ∧
              (rows.take k' ++ [V.int .i64 (i + x.size)]).take (k' + 1) = ((i + x.size) :: a :: tl).reverse.map vI := by
            intro hc X Y id id1 hid hid1
            rw [upd_none] at hid
            rw [upd_none, upd_none] at hid1
            rw [if_pos hc] at hIs
            refine ⟨hIs, ⟨by omega, ?_, p3.2⟩, ?_, hsub.none hid1.2.2, ?_⟩
            · have : (i + x.size).toNat = i + x.size.toNat := by omega
              omega
            · exact SubStore.updK (SubStore.delK ((hsub.updK n5n).updK (hsub.none hid.2)) hnew) (hsub.none hid1.2.2)
            · rw [List.take_of_length_le (by simp; omega), htk']
              simp
          refine And.intro (fun q1 => And.intro (fun q2 => ⟨hrng, inR_i64 (by omega) (by omega), And.intro (fun q3 => And.intro (fun q4 => And.intro (fun q5 => ?_) (fun q5 => ?_)) (fun q4 => ?_)) (fun q3 => ?_)⟩) (fun q2 => ?_)) (fun q1 => ?_)
          · refine RetV.pure (hsub.upd hid5) ?_
            rw [hIs, if_neg]
            rintro ⟨c1, c2, c3, c4⟩
            omega
          · refine ⟨inR_i64 (by omega) (by omega), ?_⟩
            intro id hid
            have hid' := (upd_none.1 hid).2
            have nie : e ≠ id := by rintro rfl; rw [hrow] at hid'; cases hid'
            have hd1 : ∀ σ, σ e = some ⟨3, 1, rows⟩ → dstRows σ 3 1 (.own e 0 k') = some (rows.take k', some e) := by
              intro σ hσ
              simp only [dstRows, hσ]
              rw [if_pos ⟨trivial, trivial, trivial, hkr'⟩]
            have hs1 : ∀ σ, σ id = some ⟨3, 1, [.int .i64 (i + x.size)]⟩ → srcRows σ 1 (.own id 0 1) = some [.int .i64 (i + x.size)] := by
              intro σ hσ
              simp only [srcRows, hσ]
              rw [if_pos (by simp)]
              simp
            have hb : (k' + 1) * 9 ≤ 140737488355328 := by omega
            simp -implicitDefEqProofs only [BB, effR_some, effD_some, Int.reduceEq, Int.reduceNe, Int.reduceLT, Int.reduceLE, Int.reduceGT, Int.reduceGE, Nat.reduceEqDiff, Nat.reduceAdd, Nat.reduceMul, Nat.reduceLeDiff, Nat.reduceSub, Nat.reduceLT, Nat.reduceBEq, ↓reduceIte, reduceCtorEq, ← decide_not, okind, vpre, vpure, intBin, intPre, strBin, strPre, popTo, argSlots, fldV, fldAV, subCells, idxVV, idxAAV, idxSV, sliceV, sliceSV, boundV, szIs, storeOp, storeS, setRowV, eff, extV, buildV, splice, eqSV, fitsL, eqCells, eqCell, minmaxV, capV, binBV, nilCheckV, bytesV, V.cells, V.stays, hd1, hs1, upd_ne n5e, upd_ne nie, hrow, hlenk, hb, delO, h3, h4, h5, h9, h10, h11]
            intro id1 hid1
            obtain ⟨z1, z2, z3, z4, z5⟩ := happ ⟨by simpa using q1, by omega, by omega, by first | (left; simpa using q4) | (right; simp at q5; omega)⟩ _ _ id id1 hid hid1
            refine ⟨inR_i64 (by omega) (by omega), _, ?_, i + 1, _, id1, k' + 1, _, by omega, rfl, z1, z2, by simp, ?_, z3, upd_same, z4, ?_, ?_, z5, rfl, ?_⟩
            · omega
            · simp only [List.length_cons] at hk' hsl' ⊢; omega
            · simp only [List.length_cons] at hk' ⊢; omega
            · simp; omega
            · simp
          · refine ⟨inR_i64 (by omega) (by omega), ?_⟩
            intro id hid
            have hid' := (upd_none.1 hid).2
            have nie : e ≠ id := by rintro rfl; rw [hrow] at hid'; cases hid'
            have hd1 : ∀ σ, σ e = some ⟨3, 1, rows⟩ → dstRows σ 3 1 (.own e 0 k') = some (rows.take k', some e) := by
              intro σ hσ
              simp only [dstRows, hσ]
              rw [if_pos ⟨trivial, trivial, trivial, hkr'⟩]
            have hs1 : ∀ σ, σ id = some ⟨3, 1, [.int .i64 (i + x.size)]⟩ → srcRows σ 1 (.own id 0 1) = some [.int .i64 (i + x.size)] := by
              intro σ hσ
              simp only [srcRows, hσ]
              rw [if_pos (by simp)]
              simp
            have hb : (k' + 1) * 9 ≤ 140737488355328 := by omega
            simp -implicitDefEqProofs only [BB, effR_some, effD_some, Int.reduceEq, Int.reduceNe, Int.reduceLT, Int.reduceLE, Int.reduceGT, Int.reduceGE, Nat.reduceEqDiff, Nat.reduceAdd, Nat.reduceMul, Nat.reduceLeDiff, Nat.reduceSub, Nat.reduceLT, Nat.reduceBEq, ↓reduceIte, reduceCtorEq, ← decide_not, okind, vpre, vpure, intBin, intPre, strBin, strPre, popTo, argSlots, fldV, fldAV, subCells, idxVV, idxAAV, idxSV, sliceV, sliceSV, boundV, szIs, storeOp, storeS, setRowV, eff, extV, buildV, splice, eqSV, fitsL, eqCells, eqCell, minmaxV, capV, binBV, nilCheckV, bytesV, V.cells, V.stays, hd1, hs1, upd_ne n5e, upd_ne nie, hrow, hlenk, hb, delO, h3, h4, h5, h9, h10, h11]
            intro id1 hid1
            obtain ⟨z1, z2, z3, z4, z5⟩ := happ ⟨by simpa using q1, by omega, by omega, by first | (left; simpa using q4) | (right; simp at q5; omega)⟩ _ _ id id1 hid hid1
            refine ⟨inR_i64 (by omega) (by omega), _, ?_, i + 1, _, id1, k' + 1, _, by omega, rfl, z1, z2, by simp, ?_, z3, upd_same, z4, ?_, ?_, z5, rfl, ?_⟩
            · omega
            · simp only [List.length_cons] at hk' hsl' ⊢; omega
            · simp only [List.length_cons] at hk' ⊢; omega
            · simp; omega
            · simp
          · refine RetV.pure (hsub.upd hid5) ?_
            rw [hIs, if_neg]
            rintro ⟨c1, c2, c3, c4⟩
            omega
          · refine RetV.pure (hsub.upd hid5) ?_
            rw [hIs, if_neg]
            rintro ⟨c1, c2, c3, c4⟩
            omega
          · refine RetV.pure (hsub.upd hid5) ?_
            rw [hIs, if_neg]
            rintro ⟨c1, c2, c3, c4⟩
            exact q1 (by simp [c1])
    · have hi' : i = l.length := by simp at hge; omega
      refine RetV.pure hsub ?_
      rw [hB, hi', List.drop_length]; rfl
end Go.Vc
namespace Go.Vc
open Go.Proofs
/-- what is kept -/
abbrev kept (i : Int) (l : List Int) : List Int := l.filter fun n => !decide (n ≤ i)
end Go.Vc
namespace Go.Vc
open Go.Proofs
theorem Reads.nils (σ : Store) : Reads σ 1 false .nils [] := ⟨rfl, fun i v h => by simp at h⟩
end Go.Vc
namespace Go.Vc
open Go.Proofs
theorem effR_app {P : Program} {n : Nat} {Q : St → Prop} {k : List It} {O : Orc P} {f : Nat} {d : Option Nat} {l : List VIns} {v : Nat → V} {ob : Ob} {s : Nat → V} {σ : Store} {e : Nat}
    (h : ∀ id σ', SubStore (del σ e) σ' → σ' id = some ob → σ id = none → step P O n f (.r (.ops l :: k)) ⟨putO s d (v id), σ'⟩ Q) :
    effR P O n f l k d ⟨s, σ⟩ Q (some fun id => (v id, Vc.upd (del σ e) id ob)) := by
  rw [effR_some]
  refine fun id hid => h id _ ((SubStore.refl _).upd ?_) upd_same hid
  by_cases e' : id = e
  · simp [del, e']
  · rw [del_ne e']; exact hid
/-- the row of ends, in a store beside what is kept -/
def EndsV (K σ : Store) (v : V) (ends : List Int) (B : Nat) : Prop :=
  (v = .nils ∧ ends = []) ∨ ∃ (e k : Nat) (full : List Int), v = .own e 0 k ∧ σ e = some ⟨3, 1, full.map vI⟩ ∧ K e = none ∧ k ≤ full.length ∧ full.length ≤ B ∧ full.take k = ends
theorem EndsV.new {K σ σ' : Store} {v : V} {ends : List Int} {B id : Nat} {o : Ob} (h : EndsV K σ v ends B) (hs : SubStore σ σ') (hid : σ id = none) : EndsV (upd K id o) σ' v ends B := by
  rcases h with h | ⟨e, k, full, h0, h1, h2, h3⟩
  · exact .inl h
  · exact .inr ⟨e, k, full, h0, hs _ _ h1, by rw [upd_ne (ne_new h1 hid)]; exact h2, h3⟩
theorem EndsV.less {K K' σ : Store} {v : V} {ends : List Int} {B : Nat} (h : EndsV K' σ v ends B) (hs : SubStore K K') : EndsV K σ v ends B := by
  rcases h with h | ⟨e, k, full, h0, h1, h2, h3⟩
  · exact .inl h
  · exact .inr ⟨e, k, full, h0, h1, hs.none h2, h3⟩
end Go.Vc
namespace Go.Vc
open Go.Proofs
theorem s_zero {P : Program} {O : Orc P} {n : Nat} {k : List It} {st : St} {Q : St → Prop} : step P O n 0 (.r k) st Q = Runs P n k st Q := rfl
theorem Wk.nils {σ σ' : Store} (sz : Nat) : Wk σ σ' .nils (.sl sz []) := by
  intro μ w0 w ow0 x hs hr
  simp only [Rep] at hr ⊢
  exact ⟨none, 0, by simpa using hr, by simp, .inl trivial⟩
theorem loadV_rp_encI (σ : Store) (l : List Int) : loadV σ false 1 (.rp (encI l)) = some (encI l) := rfl
theorem encI_cells (l : List Int) : (encI l).cells = [encI l] := rfl
theorem encI_stays (l : List Int) : (encI l).stays = true := rfl
/-- a row that is made, or none yet -/
def OutV (K σ : Store) (e sz : Nat) (v : V) (rows : List V) : Prop := (v = .nils ∧ rows = []) ∨ ∃ id, v = .own id 0 rows.length ∧ σ id = some ⟨e, sz, rows⟩ ∧ K id = none
theorem OutV.wk {K σ : Store} {e sz : Nat} {v : V} {rows : List V} (h : OutV K σ e sz v rows) {K' : Store} (hK : SubStore K' K) (hs : SubStore K' σ) : Wk σ K' v (.sl sz rows) := by
  rcases h with ⟨rfl, rfl⟩ | ⟨id, rfl, ho, hk⟩
  · exact Wk.nils sz
  · have := Wk.own hs ho (hK.none hk) (off := 0) (len := rows.length) (by simp)
    rw [List.drop_zero, List.take_length] at this
    exact this
theorem OutV.retv {K σ : Store} {e sz : Nat} {v : V} {rows : List V} (h : OutV K σ e sz v rows) (hs : SubStore K σ) {v0 : V} (hv : V.sl sz rows = v0) :
    RetV v σ fun r σ' => r = v0 ∧ σ' = K := ⟨_, K, hs, h.wk (SubStore.refl K) hs, hv, rfl⟩
set_option maxRecDepth 100000 in
theorem own_o (l : List Nd) (hl : l.length ≤ 10000 ∧ ∀ x ∈ l, x.words.length ≤ 1000000000) (σ : Store) : Contract Try.prog 10 [encNs l] σ fun r σ' => SubStore σ σ' ∧ OutV σ σ' 28 20 r (l.map encN) := by
  obtain ⟨hl1, hl2⟩ := hl
  refine Contract.of_runs Try.func10 e10 k10 (by simp [c10]) ?_
  refine Runs.mix 6 ?_
  (refine Runs.of_step Orc.nothing 300 ?_; simp -implicitDefEqProofs only [BB, effR_some, effD_some, Int.reduceEq, Int.reduceNe, Int.reduceLT, Int.reduceLE, Int.reduceGT, Int.reduceGE, Nat.reduceEqDiff, Nat.reduceAdd, Nat.reduceMul, Nat.reduceLeDiff, Nat.reduceSub, Nat.reduceLT, Nat.reduceBEq, ↓reduceIte, reduceCtorEq, ← decide_not, okind, vpre, vpure, intBin, intPre, strBin, strPre, popTo, argSlots, fldV, fldAV, subCells, idxVV, idxAAV, idxSV, sliceV, sliceSV, boundV, szIs, storeOp, storeS, setRowV, eff, extV, buildV, splice, eqSV, fitsL, eqCells, eqCell, minmaxV, capV, binBV, nilCheckV, bytesV, V.cells, V.stays, Orc.nothing, c10])
  refine Runs.loop (fun m st => ∃ i : Nat, i ≤ l.length ∧ m = l.length - i ∧ SubStore σ st.σ ∧ OutV σ st.σ 28 20 (st.s 3) ((l.take i).map encN) ∧ st.s 0 = encNs l ∧ st.s 4 = vI i) l.length ?_ ?_
  · exact ⟨0, by omega, by omega, SubStore.refl σ, .inl ⟨rfl, rfl⟩, rfl, rfl⟩
  · rintro m ⟨s, σ'⟩ ⟨i, hi, rfl, hsub, hout, h0, h4⟩
    simp only at hsub hout h0 h4
    rcases hout with ⟨h3, hr0⟩ | ⟨id, h3, hrow, hnew⟩
    · refine Runs.mix 6 ?_
      (refine Runs.of_step Orc.nothing 30 ?_; simp -implicitDefEqProofs only [BB, Int.reduceEq, Int.reduceNe, Int.reduceLT, Int.reduceLE, Int.reduceGT, Int.reduceGE, Nat.reduceEqDiff, Nat.reduceAdd, Nat.reduceMul, Nat.reduceLeDiff, Nat.reduceSub, Nat.reduceLT, Nat.reduceBEq, ↓reduceIte, reduceCtorEq, ← decide_not, okind, vpre, vpure, intBin, intPre, strBin, strPre, popTo, argSlots, fldV, fldAV, subCells, idxVV, idxAAV, idxSV, sliceV, sliceSV, boundV, szIs, storeOp, storeS, setRowV, eff, extV, buildV, splice, eqSV, fitsL, eqCells, eqCell, minmaxV, capV, binBV, nilCheckV, bytesV, V.cells, V.stays, s_zero, Orc.nothing, h0, h3, h4, lenV_encNs])
      refine And.intro (fun hlt => ?_) (fun hge => ?_)
      · have hlt' : i < l.length := by omega
        have hxw : l[i].words.length ≤ 1000000000 := hl2 _ (List.getElem_mem hlt')
        have htk : (l.take (i + 1)).map encN = (l.take i).map encN ++ [encN l[i]] := by rw [List.take_succ_eq_append_getElem hlt', List.map_append]; rfl
        generalize hxe : l[i] = x at *
        simp -implicitDefEqProofs only [BB, Int.reduceEq, Int.reduceNe, Int.reduceLT, Int.reduceLE, Int.reduceGT, Int.reduceGE, Nat.reduceEqDiff, Nat.reduceAdd, Nat.reduceMul, Nat.reduceLeDiff, Nat.reduceSub, Nat.reduceLT, Nat.reduceBEq, ↓reduceIte, reduceCtorEq, ← decide_not, okind, vpre, vpure, intBin, intPre, strBin, strPre, popTo, argSlots, fldV, fldAV, subCells, idxVV, idxAAV, idxSV, sliceV, sliceSV, boundV, szIs, storeOp, storeS, setRowV, eff, extV, buildV, splice, eqSV, fitsL, eqCells, eqCell, minmaxV, capV, binBV, nilCheckV, bytesV, V.cells, V.stays, idxAV_encNs hlt', hxe, Nd.cells, h0, h3, h4, s_zero]
        refine effR_new fun id5 σ1 s1 a5 f5 => ?_
        simp -implicitDefEqProofs only [BB, Int.reduceEq, Int.reduceNe, Int.reduceLT, Int.reduceLE, Int.reduceGT, Int.reduceGE, Nat.reduceEqDiff, Nat.reduceAdd, Nat.reduceMul, Nat.reduceLeDiff, Nat.reduceSub, Nat.reduceLT, Nat.reduceBEq, ↓reduceIte, reduceCtorEq, ← decide_not, okind, vpre, vpure, intBin, intPre, strBin, strPre, popTo, argSlots, fldV, fldAV, subCells, idxVV, idxAAV, idxSV, sliceV, sliceSV, boundV, szIs, storeOp, storeS, setRowV, eff, extV, buildV, splice, eqSV, fitsL, eqCells, eqCell, minmaxV, capV, binBV, nilCheckV, bytesV, V.cells, V.stays, a5, h0, h3, h4, s_zero]
        refine effR_new fun id16 σ2 s2 a16 f16 => ?_
        have a5 := s2 id5 _ upd_same
        have n5 : id5 ≠ id16 := by rintro rfl; rw [upd_same] at f16; cases f16
        have hs : srcRows σ2 1 (encI x.words) = some (x.words.map vI) := by simp [encI, srcRows]
        have hd : dstRows σ2 3 1 (.own id16 0 0) = some ([], some id16) := by
          simp only [dstRows, a16]
          rw [if_pos (by simp)]
          simp
        have hb : x.words.length * 9 ≤ 140737488355328 := by omega
        simp -implicitDefEqProofs only [BB, Int.reduceEq, Int.reduceNe, Int.reduceLT, Int.reduceLE, Int.reduceGT, Int.reduceGE, Nat.reduceEqDiff, Nat.reduceAdd, Nat.reduceMul, Nat.reduceLeDiff, Nat.reduceSub, Nat.reduceLT, Nat.reduceBEq, ↓reduceIte, reduceCtorEq, ← decide_not, okind, vpre, vpure, intBin, intPre, strBin, strPre, popTo, argSlots, fldV, fldAV, subCells, idxVV, idxAAV, idxSV, sliceV, sliceSV, boundV, szIs, storeOp, storeS, setRowV, eff, extV, buildV, splice, eqSV, fitsL, eqCells, eqCell, minmaxV, capV, binBV, nilCheckV, bytesV, V.cells, V.stays, idxAV_encNs hlt', hxe, loadV_rp_encI, Nd.cells, hs, hd, hb, delO, List.length_map, Nat.zero_add, h0, h3, h4, s_zero]
        refine effR_app fun id22 σ3 s3 a22 f22 => ?_
        have a5 := s3 id5 _ (by rw [del_ne n5]; exact a5)
        have n522 : id5 ≠ id22 := by rintro rfl; rw [s2 id5 _ upd_same] at f22; cases f22
        simp -implicitDefEqProofs only [BB, Int.reduceEq, Int.reduceNe, Int.reduceLT, Int.reduceLE, Int.reduceGT, Int.reduceGE, Nat.reduceEqDiff, Nat.reduceAdd, Nat.reduceMul, Nat.reduceLeDiff, Nat.reduceSub, Nat.reduceLT, Nat.reduceBEq, ↓reduceIte, reduceCtorEq, ← decide_not, okind, vpre, vpure, intBin, intPre, strBin, strPre, popTo, argSlots, fldV, fldAV, subCells, idxVV, idxAAV, idxSV, sliceV, sliceSV, boundV, szIs, storeOp, storeS, setRowV, eff, extV, buildV, splice, eqSV, fitsL, eqCells, eqCell, minmaxV, capV, binBV, nilCheckV, bytesV, V.cells, V.stays, s_zero]
        refine Runs.freeze [0, 3, 4, 5] 22 id22 0 x.words.length (SubStore.of_del σ3 id22) a22 (by simp [del]) rfl (by simp) ?_
        have a5' : del σ3 id22 id5 = _ := (del_ne n522).trans a5
        have hfold : List.take x.words.length (List.map vI x.words) = List.map vI x.words := List.take_of_length_le (by simp)
        have hs3 : SubStore σ (del σ3 id22) := (((((hsub.trans s1).updK (hsub.none f5)).trans s2).delK ((hsub.trans s1).updK (hsub.none f5) |>.none f16)).trans s3).delK (((hsub.trans s1).updK (hsub.none f5)).trans s2 |>.none f22)
        (refine Runs.of_step Orc.nothing 300 ?_; simp -implicitDefEqProofs only [BB, Int.reduceEq, Int.reduceNe, Int.reduceLT, Int.reduceLE, Int.reduceGT, Int.reduceGE, Nat.reduceEqDiff, Nat.reduceAdd, Nat.reduceMul, Nat.reduceLeDiff, Nat.reduceSub, Nat.reduceLT, Nat.reduceBEq, ↓reduceIte, reduceCtorEq, ← decide_not, okind, vpre, vpure, intBin, intPre, strBin, strPre, popTo, argSlots, fldV, fldAV, subCells, idxVV, idxAAV, idxSV, sliceV, sliceSV, boundV, szIs, storeOp, storeS, setRowV, eff, extV, buildV, splice, eqSV, fitsL, eqCells, eqCell, minmaxV, capV, binBV, nilCheckV, bytesV, V.cells, V.stays, Orc.nothing, a5', hfold, h0, h3, h4])
        refine effR_new fun id26 σ4 s4 a26 f26 => ?_
        have hs2 : srcRows σ4 20 (.own id26 0 1) = some [encN x] := by
          simp only [srcRows, a26]
          rw [if_pos (by simp)]
          simp [encN, Nd.cells, encI]
        have hs4 := (hs3.updK (hsub.none f5)).trans s4
        have hd2 : dstRows σ4 28 20 .nils = some ([], none) := rfl
        simp -implicitDefEqProofs only [BB, Int.reduceEq, Int.reduceNe, Int.reduceLT, Int.reduceLE, Int.reduceGT, Int.reduceGE, Nat.reduceEqDiff, Nat.reduceAdd, Nat.reduceMul, Nat.reduceLeDiff, Nat.reduceSub, Nat.reduceLT, Nat.reduceBEq, ↓reduceIte, reduceCtorEq, ← decide_not, okind, vpre, vpure, intBin, intPre, strBin, strPre, popTo, argSlots, fldV, fldAV, subCells, idxVV, idxAAV, idxSV, sliceV, sliceSV, boundV, szIs, storeOp, storeS, setRowV, eff, extV, buildV, splice, eqSV, fitsL, eqCells, eqCell, minmaxV, capV, binBV, nilCheckV, bytesV, V.cells, V.stays, hs2, hd2, delO, Nat.reduceLeDiff, h0, h3, h4]
        refine effR_new fun id27 σ5 s5 a27 f27 => ?_
        simp -implicitDefEqProofs only [BB, Int.reduceEq, Int.reduceNe, Int.reduceLT, Int.reduceLE, Int.reduceGT, Int.reduceGE, Nat.reduceEqDiff, Nat.reduceAdd, Nat.reduceMul, Nat.reduceLeDiff, Nat.reduceSub, Nat.reduceLT, Nat.reduceBEq, ↓reduceIte, reduceCtorEq, ← decide_not, okind, vpre, vpure, intBin, intPre, strBin, strPre, popTo, argSlots, fldV, fldAV, subCells, idxVV, idxAAV, idxSV, sliceV, sliceSV, boundV, szIs, storeOp, storeS, setRowV, eff, extV, buildV, splice, eqSV, fitsL, eqCells, eqCell, minmaxV, capV, binBV, nilCheckV, bytesV, V.cells, V.stays, h0, h3, h4]
        refine ⟨inR_i64 (by omega) (by omega), _, ?_, i + 1, by omega, rfl, hs4.trans s5, .inr ⟨id27, ?_, ?_, hs4.none f27⟩, by simp⟩
        · omega
        · rw [htk, hr0]; rfl
        · rw [htk, hr0, a27]; rfl
      · have hie : i = l.length := by omega
        subst hie
        rw [List.take_length] at hr0
        exact ⟨_, _, SubStore.refl _, Wk.refl (SubStore.refl _) _, hsub, .inl ⟨rfl, hr0⟩⟩
    · have hln : (l.take i).length = i := by simp; omega
      have hln2 : ((l.take i).map encN).length = i := by simpa using hln
      rw [hln2] at h3
      refine Runs.mix 6 ?_
      (refine Runs.of_step Orc.nothing 30 ?_; simp -implicitDefEqProofs only [BB, Int.reduceEq, Int.reduceNe, Int.reduceLT, Int.reduceLE, Int.reduceGT, Int.reduceGE, Nat.reduceEqDiff, Nat.reduceAdd, Nat.reduceMul, Nat.reduceLeDiff, Nat.reduceSub, Nat.reduceLT, Nat.reduceBEq, ↓reduceIte, reduceCtorEq, ← decide_not, okind, vpre, vpure, intBin, intPre, strBin, strPre, popTo, argSlots, fldV, fldAV, subCells, idxVV, idxAAV, idxSV, sliceV, sliceSV, boundV, szIs, storeOp, storeS, setRowV, eff, extV, buildV, splice, eqSV, fitsL, eqCells, eqCell, minmaxV, capV, binBV, nilCheckV, bytesV, V.cells, V.stays, s_zero, Orc.nothing, h0, h3, h4, lenV_encNs])
      refine And.intro (fun hlt => ?_) (fun hge => ?_)
      · have hlt' : i < l.length := by omega
        have hxw : l[i].words.length ≤ 1000000000 := hl2 _ (List.getElem_mem hlt')
        have htk : (l.take (i + 1)).map encN = (l.take i).map encN ++ [encN l[i]] := by rw [List.take_succ_eq_append_getElem hlt', List.map_append]; rfl
        have hidlen : i ≤ 1000000000 := by omega
        generalize hxe : l[i] = x at *
        simp -implicitDefEqProofs only [BB, Int.reduceEq, Int.reduceNe, Int.reduceLT, Int.reduceLE, Int.reduceGT, Int.reduceGE, Nat.reduceEqDiff, Nat.reduceAdd, Nat.reduceMul, Nat.reduceLeDiff, Nat.reduceSub, Nat.reduceLT, Nat.reduceBEq, ↓reduceIte, reduceCtorEq, ← decide_not, okind, vpre, vpure, intBin, intPre, strBin, strPre, popTo, argSlots, fldV, fldAV, subCells, idxVV, idxAAV, idxSV, sliceV, sliceSV, boundV, szIs, storeOp, storeS, setRowV, eff, extV, buildV, splice, eqSV, fitsL, eqCells, eqCell, minmaxV, capV, binBV, nilCheckV, bytesV, V.cells, V.stays, idxAV_encNs hlt', hxe, Nd.cells, h0, h3, h4, s_zero]
        refine effR_new fun id5 σ1 s1 a5 f5 => ?_
        simp -implicitDefEqProofs only [BB, Int.reduceEq, Int.reduceNe, Int.reduceLT, Int.reduceLE, Int.reduceGT, Int.reduceGE, Nat.reduceEqDiff, Nat.reduceAdd, Nat.reduceMul, Nat.reduceLeDiff, Nat.reduceSub, Nat.reduceLT, Nat.reduceBEq, ↓reduceIte, reduceCtorEq, ← decide_not, okind, vpre, vpure, intBin, intPre, strBin, strPre, popTo, argSlots, fldV, fldAV, subCells, idxVV, idxAAV, idxSV, sliceV, sliceSV, boundV, szIs, storeOp, storeS, setRowV, eff, extV, buildV, splice, eqSV, fitsL, eqCells, eqCell, minmaxV, capV, binBV, nilCheckV, bytesV, V.cells, V.stays, a5, h0, h3, h4, s_zero]
        refine effR_new fun id16 σ2 s2 a16 f16 => ?_
        have a5 := s2 id5 _ upd_same
        have n5 : id5 ≠ id16 := by rintro rfl; rw [upd_same] at f16; cases f16
        have hs : srcRows σ2 1 (encI x.words) = some (x.words.map vI) := by simp [encI, srcRows]
        have hd : dstRows σ2 3 1 (.own id16 0 0) = some ([], some id16) := by
          simp only [dstRows, a16]
          rw [if_pos (by simp)]
          simp
        have hb : x.words.length * 9 ≤ 140737488355328 := by omega
        simp -implicitDefEqProofs only [BB, Int.reduceEq, Int.reduceNe, Int.reduceLT, Int.reduceLE, Int.reduceGT, Int.reduceGE, Nat.reduceEqDiff, Nat.reduceAdd, Nat.reduceMul, Nat.reduceLeDiff, Nat.reduceSub, Nat.reduceLT, Nat.reduceBEq, ↓reduceIte, reduceCtorEq, ← decide_not, okind, vpre, vpure, intBin, intPre, strBin, strPre, popTo, argSlots, fldV, fldAV, subCells, idxVV, idxAAV, idxSV, sliceV, sliceSV, boundV, szIs, storeOp, storeS, setRowV, eff, extV, buildV, splice, eqSV, fitsL, eqCells, eqCell, minmaxV, capV, binBV, nilCheckV, bytesV, V.cells, V.stays, idxAV_encNs hlt', hxe, loadV_rp_encI, Nd.cells, hs, hd, hb, delO, List.length_map, Nat.zero_add, h0, h3, h4, s_zero]
        refine effR_app fun id22 σ3 s3 a22 f22 => ?_
        have a5 := s3 id5 _ (by rw [del_ne n5]; exact a5)
        have n522 : id5 ≠ id22 := by rintro rfl; rw [s2 id5 _ upd_same] at f22; cases f22
        simp -implicitDefEqProofs only [BB, Int.reduceEq, Int.reduceNe, Int.reduceLT, Int.reduceLE, Int.reduceGT, Int.reduceGE, Nat.reduceEqDiff, Nat.reduceAdd, Nat.reduceMul, Nat.reduceLeDiff, Nat.reduceSub, Nat.reduceLT, Nat.reduceBEq, ↓reduceIte, reduceCtorEq, ← decide_not, okind, vpre, vpure, intBin, intPre, strBin, strPre, popTo, argSlots, fldV, fldAV, subCells, idxVV, idxAAV, idxSV, sliceV, sliceSV, boundV, szIs, storeOp, storeS, setRowV, eff, extV, buildV, splice, eqSV, fitsL, eqCells, eqCell, minmaxV, capV, binBV, nilCheckV, bytesV, V.cells, V.stays, s_zero]
        refine Runs.freeze [0, 3, 4, 5] 22 id22 0 x.words.length (SubStore.of_del σ3 id22) a22 (by simp [del]) rfl (by simp) ?_
        have a5' : del σ3 id22 id5 = _ := (del_ne n522).trans a5
        have hfold : List.take x.words.length (List.map vI x.words) = List.map vI x.words := List.take_of_length_le (by simp)
        have hs3 : SubStore σ (del σ3 id22) := (((((hsub.trans s1).updK (hsub.none f5)).trans s2).delK ((hsub.trans s1).updK (hsub.none f5) |>.none f16)).trans s3).delK (((hsub.trans s1).updK (hsub.none f5)).trans s2 |>.none f22)
        (refine Runs.of_step Orc.nothing 300 ?_; simp -implicitDefEqProofs only [BB, Int.reduceEq, Int.reduceNe, Int.reduceLT, Int.reduceLE, Int.reduceGT, Int.reduceGE, Nat.reduceEqDiff, Nat.reduceAdd, Nat.reduceMul, Nat.reduceLeDiff, Nat.reduceSub, Nat.reduceLT, Nat.reduceBEq, ↓reduceIte, reduceCtorEq, ← decide_not, okind, vpre, vpure, intBin, intPre, strBin, strPre, popTo, argSlots, fldV, fldAV, subCells, idxVV, idxAAV, idxSV, sliceV, sliceSV, boundV, szIs, storeOp, storeS, setRowV, eff, extV, buildV, splice, eqSV, fitsL, eqCells, eqCell, minmaxV, capV, binBV, nilCheckV, bytesV, V.cells, V.stays, Orc.nothing, a5', hfold, h0, h3, h4])
        refine effR_new fun id26 σ4 s4 a26 f26 => ?_
        have hs2 : srcRows σ4 20 (.own id26 0 1) = some [encN x] := by
          simp only [srcRows, a26]
          rw [if_pos (by simp)]
          simp [encN, Nd.cells, encI]
        have hs4 := (hs3.updK (hsub.none f5)).trans s4
        have e1 := s1 id _ hrow
        have n5i : id ≠ id5 := ne_new hrow f5
        have e2 := s2 id _ ((upd_ne n5i).trans e1)
        have n16i : id ≠ id16 := ne_new ((upd_ne n5i).trans e1) f16
        have n22i : id ≠ id22 := ne_new e2 f22
        have e3 := s3 id _ ((del_ne n16i).trans e2)
        have e4 := s4 id _ ((upd_ne n5i).trans ((del_ne n22i).trans e3))
        have hd2 : dstRows σ4 28 20 (.own id 0 i) = some ((l.take i).map encN, some id) := by
          simp only [dstRows, e4]
          rw [if_pos ⟨trivial, trivial, trivial, by rw [hln2]; exact Nat.le_refl _⟩, List.take_of_length_le (by rw [hln2]; exact Nat.le_refl _)]
        have hb2 : (i + 1) * 177 ≤ 140737488355328 := by omega
        simp -implicitDefEqProofs only [BB, Int.reduceEq, Int.reduceNe, Int.reduceLT, Int.reduceLE, Int.reduceGT, Int.reduceGE, Nat.reduceEqDiff, Nat.reduceAdd, Nat.reduceMul, Nat.reduceLeDiff, Nat.reduceSub, Nat.reduceLT, Nat.reduceBEq, ↓reduceIte, reduceCtorEq, ← decide_not, okind, vpre, vpure, intBin, intPre, strBin, strPre, popTo, argSlots, fldV, fldAV, subCells, idxVV, idxAAV, idxSV, sliceV, sliceSV, boundV, szIs, storeOp, storeS, setRowV, eff, extV, buildV, splice, eqSV, fitsL, eqCells, eqCell, minmaxV, capV, binBV, nilCheckV, bytesV, V.cells, V.stays, hs2, hd2, delO, hln2, hb2, h0, h3, h4]
        refine effR_app fun id27 σ5 s5 a27 f27 => ?_
        simp -implicitDefEqProofs only [BB, Int.reduceEq, Int.reduceNe, Int.reduceLT, Int.reduceLE, Int.reduceGT, Int.reduceGE, Nat.reduceEqDiff, Nat.reduceAdd, Nat.reduceMul, Nat.reduceLeDiff, Nat.reduceSub, Nat.reduceLT, Nat.reduceBEq, ↓reduceIte, reduceCtorEq, ← decide_not, okind, vpre, vpure, intBin, intPre, strBin, strPre, popTo, argSlots, fldV, fldAV, subCells, idxVV, idxAAV, idxSV, sliceV, sliceSV, boundV, szIs, storeOp, storeS, setRowV, eff, extV, buildV, splice, eqSV, fitsL, eqCells, eqCell, minmaxV, capV, binBV, nilCheckV, bytesV, V.cells, V.stays, h0, h3, h4]
        refine ⟨inR_i64 (by omega) (by omega), _, ?_, i + 1, by omega, rfl, (hs4.delK hnew).trans s5, .inr ⟨id27, ?_, ?_, hs4.none f27⟩, by simp⟩
        · omega
        · rw [htk]; simp; omega
        · rw [htk]; exact a27
      · have hie : i = l.length := by omega
        subst hie
        rw [List.take_length] at hrow
        exact ⟨_, _, SubStore.refl _, Wk.refl (SubStore.refl _) _, hsub, .inr ⟨id, by rw [List.length_map], hrow, hnew⟩⟩
theorem own_c (l : List Nd) (hl : l.length ≤ 10000 ∧ ∀ x ∈ l, x.words.length ≤ 1000000000) : PFun Try.prog 10 [encNs l] (encNs l) := fun σ =>
  (own_o l hl σ).weak fun _ _ h => h.2.retv h.1 rfl
end Go.Vc
namespace Go.Vc
open Go.Proofs
theorem styEq (s t : Sty) : (decide (s.top = t.top) && (decide (s.bottom = t.bottom) && (decide (s.padTop = t.padTop) && (decide (s.padBottom = t.padBottom) && (decide (s.inset = t.inset) && (decide (s.orphans = t.orphans) && (decide (s.widows = t.widows) && (decide (s.head = t.head) &&
    (decide (s.before = t.before) && (decide (s.after = t.after) && (decide (s.inside = t.inside) && decide (s.clear = t.clear)))))))))))) = decide (s = t) := by
  rw [Bool.eq_iff_iff]
  cases s; cases t
  simp
set_option maxRecDepth 100000 in
theorem one5_c (a b : Nd) (ha : a.words.length ≤ 200000000000000) (hb : b.words.length ≤ 200000000000000) : PFun Try.prog 38 [encN a, encN b] (.bool (decide (a = b))) := fun σ => by
  refine Contract.of_runs Try.func38 e38 k38 (by simp [c38]) ?_
  refine Runs.mix 6 ?_
  (refine Runs.of_step Orc.nothing 300 ?_; simp -implicitDefEqProofs only [BB, Int.reduceEq, Int.reduceNe, Int.reduceLT, Int.reduceLE, Int.reduceGT, Int.reduceGE, Nat.reduceEqDiff, Nat.reduceAdd, Nat.reduceMul, Nat.reduceLeDiff, Nat.reduceSub, Nat.reduceLT, Nat.reduceBEq, ↓reduceIte, reduceCtorEq, ← decide_not, okind, vpre, vpure, intBin, intPre, strBin, strPre, popTo, argSlots, fldV, fldAV, subCells, idxVV, idxAAV, idxSV, sliceV, sliceSV, boundV, szIs, storeOp, storeS, setRowV, eff, extV, buildV, splice, eqSV, fitsL, eqCells, eqCell, minmaxV, capV, binBV, nilCheckV, bytesV, V.cells, V.stays, Orc.nothing, c38, encN, Nd.cells])
  refine effR_new fun id2 σ1 s1 a2 f2 => ?_
  simp -implicitDefEqProofs only [BB, Int.reduceEq, Int.reduceNe, Int.reduceLT, Int.reduceLE, Int.reduceGT, Int.reduceGE, Nat.reduceEqDiff, Nat.reduceAdd, Nat.reduceMul, Nat.reduceLeDiff, Nat.reduceSub, Nat.reduceLT, Nat.reduceBEq, ↓reduceIte, reduceCtorEq, ← decide_not, okind, vpre, vpure, intBin, intPre, strBin, strPre, popTo, argSlots, fldV, fldAV, subCells, idxVV, idxAAV, idxSV, sliceV, sliceSV, boundV, szIs, storeOp, storeS, setRowV, eff, extV, buildV, splice, eqSV, fitsL, eqCells, eqCell, minmaxV, capV, binBV, nilCheckV, bytesV, V.cells, V.stays, a2]
  refine effR_new fun id3 σ2 s2 a3 f3 => ?_
  have n23 := ne_new a2 f3
  have a2 := s2 _ _ a2
  have hs := s1.trans s2
  simp -implicitDefEqProofs only [BB, Int.reduceEq, Int.reduceNe, Int.reduceLT, Int.reduceLE, Int.reduceGT, Int.reduceGE, Nat.reduceEqDiff, Nat.reduceAdd, Nat.reduceMul, Nat.reduceLeDiff, Nat.reduceSub, Nat.reduceLT, Nat.reduceBEq, ↓reduceIte, reduceCtorEq, ← decide_not, okind, vpre, vpure, intBin, intPre, strBin, strPre, popTo, argSlots, fldV, fldAV, subCells, idxVV, idxAAV, idxSV, sliceV, sliceSV, boundV, szIs, storeOp, storeS, setRowV, eff, extV, buildV, splice, eqSV, fitsL, eqCells, eqCell, minmaxV, capV, binBV, nilCheckV, bytesV, V.cells, V.stays, a2, a3, styEq, lenV_encI]
  refine And.intro (fun c1 => And.intro (fun c2 => And.intro (fun c3 => And.intro (fun c4 => And.intro (fun c5 => And.intro (fun c6 => And.intro (fun c7 => And.intro (fun c8 => And.intro (fun c9 => ?_) (fun c9 => ?_)) (fun c8 => ?_)) (fun c7 => ?_)) (fun c6 => ?_)) (fun c5 => ?_)) (fun c4 => ?_)) (fun c3 => ?_)) (fun c2 => ?_)) (fun c1 => ?_)
  case refine_2 =>
    have hl : a.words.length = b.words.length := by
      have : (a.words.length : Int) = b.words.length := by simpa using c9
      omega
    have hab : a = b ↔ a.words = b.words := by
      constructor
      · rintro rfl; rfl
      · intro hw
        cases a; cases b
        simp_all
    refine Runs.loop (fun m st => ∃ i : Nat, i ≤ a.words.length ∧ m = a.words.length - i ∧ a.words.take i = b.words.take i ∧ st.σ = σ2 ∧ st.s 2 = .ptr id2 0 0 ∧ st.s 3 = .ptr id3 0 0 ∧ st.s 5 = vI i) a.words.length ?_ ?_
    · exact ⟨0, by omega, by omega, rfl, rfl, rfl, rfl, rfl⟩
    · rintro m ⟨s, σ'⟩ ⟨i, hi, rfl, ht, hσ, h2, h3, h5⟩
      simp only at hσ h2 h3 h5
      subst hσ
      refine Runs.mix 6 ?_
      (refine Runs.of_step Orc.nothing 300 ?_; simp -implicitDefEqProofs only [BB, effR_some, effD_some, Int.reduceEq, Int.reduceNe, Int.reduceLT, Int.reduceLE, Int.reduceGT, Int.reduceGE, Nat.reduceEqDiff, Nat.reduceAdd, Nat.reduceMul, Nat.reduceLeDiff, Nat.reduceSub, Nat.reduceLT, Nat.reduceBEq, ↓reduceIte, reduceCtorEq, ← decide_not, okind, vpre, vpure, intBin, intPre, strBin, strPre, popTo, argSlots, fldV, fldAV, subCells, idxVV, idxAAV, idxSV, sliceV, sliceSV, boundV, szIs, storeOp, storeS, setRowV, eff, extV, buildV, splice, eqSV, fitsL, eqCells, eqCell, minmaxV, capV, binBV, nilCheckV, bytesV, V.cells, V.stays, Orc.nothing, h2, h3, h5, a2, a3, lenV_encI])
      refine And.intro (fun hlt => ?_) (fun hge => ?_)
      · have hlt' : i < a.words.length := by omega
        have hlt2 : i < b.words.length := by omega
        simp -implicitDefEqProofs only [BB, effR_some, effD_some, Int.reduceEq, Int.reduceNe, Int.reduceLT, Int.reduceLE, Int.reduceGT, Int.reduceGE, Nat.reduceEqDiff, Nat.reduceAdd, Nat.reduceMul, Nat.reduceLeDiff, Nat.reduceSub, Nat.reduceLT, Nat.reduceBEq, ↓reduceIte, reduceCtorEq, ← decide_not, okind, vpre, vpure, intBin, intPre, strBin, strPre, popTo, argSlots, fldV, fldAV, subCells, idxVV, idxAAV, idxSV, sliceV, sliceSV, boundV, szIs, storeOp, storeS, setRowV, eff, extV, buildV, splice, eqSV, fitsL, eqCells, eqCell, minmaxV, capV, binBV, nilCheckV, bytesV, V.cells, V.stays, idxAV_encI hlt', idxAV_encI hlt2, a2, a3, h2, h3, h5]
        refine And.intro (fun hd => ?_) (fun hd => ?_)
        · refine RetV.pure hs ?_
          rw [V.bool.injEq]; symm
          rw [decide_eq_false_iff_not, hab]
          intro hw
          apply hd
          simp [hw]
        · refine ⟨inR_i64 (by omega) (by omega), _, ?_, i + 1, by omega, rfl, ?_, ?_⟩
          · omega
          · rw [List.take_succ_eq_append_getElem hlt', List.take_succ_eq_append_getElem hlt2, ht]
            have : a.words[i] = b.words[i] := by simpa using hd
            rw [this]
          · simp
      · have hie : i = a.words.length := by omega
        refine RetV.pure hs ?_
        rw [V.bool.injEq]; symm
        rw [decide_eq_true_eq, hab]
        rw [hie, List.take_length] at ht
        rw [ht, hl, List.take_length]
  all_goals (refine RetV.pure hs ?_; rw [V.bool.injEq]; symm; rw [decide_eq_false_iff_not]; rintro rfl; simp at *)
/-- a node's numbers, read -/
def ndOf : V → Option Nd
  | .agg [.int .i64 a0, .int .i64 a1, .int .i64 a2, .int .i64 a3, .int .i64 a4, .int .i64 a5, .int .i64 a6, .int .i64 a7, .int .i64 a8, .int .i64 a9, .int .i64 a10, .int .i64 a11, .int .i64 a12, .int .i64 a13, .int .i64 a14, .int .i64 a15, .sl 1 rows, .int .i64 a17, .int .i64 a18, .int .i64 a19] =>
    (intsOf rows).bind fun ws => if ws.length ≤ 200000000000000 then some ⟨a0, a1, ⟨a2, a3, a4, a5, a6, a7, a8, a9, a10, a11, a12, a13⟩, a14, a15, ws, a17, a18, a19⟩ else none
  | _ => none
theorem ndOf_eq {v : V} {x : Nd} (h : ndOf v = some x) : v = encN x ∧ x.words.length ≤ 200000000000000 := by
  unfold ndOf at h
  split at h
  · rw [Option.bind_eq_some_iff] at h
    obtain ⟨ws, h1, h2⟩ := h
    split at h2
    · rename_i hw
      simp only [Option.some.injEq] at h2
      subst h2
      rw [intsOf_eq h1]
      exact ⟨rfl, hw⟩
    · cases h2
  · cases h
theorem ndOf_enc {x : Nd} (hw : x.words.length ≤ 200000000000000) : ndOf (.agg [.int .i64 x.kind, .int .i64 x.size, .int .i64 x.st.top, .int .i64 x.st.bottom, .int .i64 x.st.padTop, .int .i64 x.st.padBottom, .int .i64 x.st.inset, .int .i64 x.st.orphans, .int .i64 x.st.widows, .int .i64 x.st.head, .int .i64 x.st.before, .int .i64 x.st.after, .int .i64 x.st.inside, .int .i64 x.st.clear, .int .i64 x.line, .int .i64 x.space, encI x.words, .int .i64 x.side, .int .i64 x.w, .int .i64 x.h]) = some x := by
  show ((intsOf (x.words.map vI)).bind fun ws => if ws.length ≤ 200000000000000 then some (Nd.mk x.kind x.size ⟨x.st.top, x.st.bottom, x.st.padTop, x.st.padBottom, x.st.inset, x.st.orphans, x.st.widows, x.st.head, x.st.before, x.st.after, x.st.inside, x.st.clear⟩ x.line x.space ws x.side x.w x.h) else none) = _
  rw [intsOf_map, Option.bind_some, if_pos hw]
def o22 (f : FuncId) (args : List V) : Option V := if f = 38 then (match args with
  | [v, u] => (ndOf v).bind fun x => (ndOf u).bind fun y => some (.bool (decide (x = y)))
  | _ => none) else none
def O22 : Orc Try.prog where
  get f args _ := o22 f args
  ok f args σ v h := by
    unfold o22 at h
    split at h
    · rename_i hf
      subst hf
      split at h
      · rw [Option.bind_eq_some_iff] at h
        obtain ⟨x, h1, h2⟩ := h
        rw [Option.bind_eq_some_iff] at h2
        obtain ⟨y, h3, h4⟩ := h2
        simp only [Option.some.injEq] at h4
        subst h4
        obtain ⟨rfl, hx⟩ := ndOf_eq h1
        obtain ⟨rfl, hy⟩ := ndOf_eq h3
        exact one5_c x y hx hy σ
      · cases h
    · cases h
theorem O22_38 (v u : V) (σ : Store) : O22.get 38 [v, u] σ = (ndOf v).bind fun x => (ndOf u).bind fun y => some (.bool (decide (x = y))) := rfl
set_option maxRecDepth 100000 in
theorem same5_c (a b : List Nd) (ha : Fine a) (hb : Fine b) : PFun Try.prog 17 [encNs a, encNs b] (.bool (decide (a = b))) := fun σ => by
  refine Contract.of_runs Try.func17 e17 k17 (by simp [c17]) ?_
  refine Runs.mix 6 ?_
  (refine Runs.of_step Orc.nothing 300 ?_; simp -implicitDefEqProofs only [BB, effR_some, effD_some, Int.reduceEq, Int.reduceNe, Int.reduceLT, Int.reduceLE, Int.reduceGT, Int.reduceGE, Nat.reduceEqDiff, Nat.reduceAdd, Nat.reduceMul, Nat.reduceLeDiff, Nat.reduceSub, Nat.reduceLT, Nat.reduceBEq, ↓reduceIte, reduceCtorEq, ← decide_not, okind, vpre, vpure, intBin, intPre, strBin, strPre, popTo, argSlots, fldV, fldAV, subCells, idxVV, idxAAV, idxSV, sliceV, sliceSV, boundV, szIs, storeOp, storeS, setRowV, eff, extV, buildV, splice, eqSV, fitsL, eqCells, eqCell, minmaxV, capV, binBV, nilCheckV, bytesV, V.cells, V.stays, Orc.nothing, c17, lenV_encNs])
  refine And.intro (fun hl => ?_) (fun hl => ?_)
  · refine RetV.same ?_
    rw [V.bool.injEq]; symm
    rw [decide_eq_false_iff_not]
    rintro rfl
    simp at hl
  · have hl : a.length = b.length := by
      have : (a.length : Int) = b.length := by simpa using hl
      omega
    refine Runs.loop (fun m st => ∃ i : Nat, i ≤ a.length ∧ m = a.length - i ∧ a.take i = b.take i ∧ st.σ = σ ∧ st.s 0 = encNs a ∧ st.s 1 = encNs b ∧ st.s 5 = vI i) a.length ?_ ?_
    · exact ⟨0, by omega, by omega, rfl, rfl, rfl, rfl, rfl⟩
    · rintro m ⟨s, σ'⟩ ⟨i, hi, rfl, ht, hσ, h0, h1, h5⟩
      simp only at hσ h0 h1 h5
      subst hσ
      have hal := ha.1
      refine Runs.mix 6 ?_
      (refine Runs.of_step O22 300 ?_; simp -implicitDefEqProofs only [BB, effR_some, effD_some, Int.reduceEq, Int.reduceNe, Int.reduceLT, Int.reduceLE, Int.reduceGT, Int.reduceGE, Nat.reduceEqDiff, Nat.reduceAdd, Nat.reduceMul, Nat.reduceLeDiff, Nat.reduceSub, Nat.reduceLT, Nat.reduceBEq, ↓reduceIte, reduceCtorEq, ← decide_not, okind, vpre, vpure, intBin, intPre, strBin, strPre, popTo, argSlots, fldV, fldAV, subCells, idxVV, idxAAV, idxSV, sliceV, sliceSV, boundV, szIs, storeOp, storeS, setRowV, eff, extV, buildV, splice, eqSV, fitsL, eqCells, eqCell, minmaxV, capV, binBV, nilCheckV, bytesV, V.cells, V.stays, h0, h1, h5, lenV_encNs])
      refine And.intro (fun hlt => ?_) (fun hge => ?_)
      · have hlt' : i < a.length := by omega
        have hlt2 : i < b.length := by omega
        have hx := ha.2 _ (List.getElem_mem hlt')
        have hy := hb.2 _ (List.getElem_mem hlt2)
        have hta := List.take_succ_eq_append_getElem hlt'
        have htb := List.take_succ_eq_append_getElem hlt2
        have hxe : a[i]? = some a[i] := by simp [hlt']
        have hye : b[i]? = some b[i] := by simp [hlt2]
        generalize hxg : a[i] = x at *
        generalize hyg : b[i] = y at *
        simp -implicitDefEqProofs only [BB, effR_some, effD_some, Int.reduceEq, Int.reduceNe, Int.reduceLT, Int.reduceLE, Int.reduceGT, Int.reduceGE, Nat.reduceEqDiff, Nat.reduceAdd, Nat.reduceMul, Nat.reduceLeDiff, Nat.reduceSub, Nat.reduceLT, Nat.reduceBEq, ↓reduceIte, reduceCtorEq, ← decide_not, okind, vpre, vpure, intBin, intPre, strBin, strPre, popTo, argSlots, fldV, fldAV, subCells, idxVV, idxAAV, idxSV, sliceV, sliceSV, boundV, szIs, storeOp, storeS, setRowV, eff, extV, buildV, splice, eqSV, fitsL, eqCells, eqCell, minmaxV, capV, binBV, nilCheckV, bytesV, V.cells, V.stays, idxAV_encNs hlt', idxAV_encNs hlt2, hxg, hyg, Nd.cells, O22_38, ndOf_enc hx, ndOf_enc hy, Option.bind_some, h0, h1, h5]
        refine And.intro (fun hd => ?_) (fun hd => ?_)
        · refine RetV.same ?_
          rw [V.bool.injEq]; symm
          rw [decide_eq_false_iff_not]
          rintro rfl
          rw [hxe] at hye
          simp at hye
          exact hd hye
        · refine ⟨inR_i64 (by omega) (by omega), _, ?_, i + 1, by omega, rfl, ?_, ?_⟩
          · omega
          · rw [hta, htb, ht]
            have : x = y := by simpa using hd
            rw [this]
          · simp
      · have hie : i = a.length := by omega
        refine RetV.same ?_
        rw [V.bool.injEq]; symm
        rw [decide_eq_true_eq]
        rw [hie, List.take_length] at ht
        rw [ht, hl, List.take_length]
end Go.Vc
namespace Go.Vc
open Go.Proofs
/-- what is known of one more call -/
def Orc.add {P : Program} (O : Orc P) (dec : ∀ a b : List V, Decidable (a = b)) (f0 : FuncId) (args0 : List V) (v0 : V) (h : PFun P f0 args0 v0) : Orc P where
  get f args σ := if f = f0 then (match dec args args0 with
    | .isTrue _ => some v0
    | .isFalse _ => O.get f args σ) else O.get f args σ
  up f args σ σ' v hs hv := by
    by_cases hf : f = f0
    · simp only [if_pos hf] at hv ⊢
      split at hv
      · exact hv
      · exact O.up _ _ _ _ _ hs hv
    · simp only [if_neg hf] at hv ⊢
      exact O.up _ _ _ _ _ hs hv
  ok f args σ v hv := by
    split at hv
    · rename_i hf
      split at hv
      · rename_i ha _
        simp only [Option.some.injEq] at hv
        subst hf ha hv
        exact h σ
      · exact O.ok _ _ _ _ hv
    · exact O.ok _ _ _ _ hv
end Go.Vc
namespace Go.Vc
open Go.Proofs
set_option maxRecDepth 100000 in
theorem maps_of {α : Type} {f : α → V} {p : α → Prop} : ∀ {rows : List V}, (∀ r ∈ rows, ∃ x, r = f x ∧ p x) → ∃ l : List α, rows = l.map f ∧ ∀ x ∈ l, p x
  | [], _ => ⟨[], rfl, by simp⟩
  | r :: rs, h => by
    obtain ⟨x, rfl, hx⟩ := h r (by simp)
    obtain ⟨l, rfl, hl⟩ := maps_of fun q hq => h q (List.mem_cons_of_mem _ hq)
    exact ⟨x :: l, rfl, by simpa using ⟨hx, hl⟩⟩
def inI (m : Int) : Prop := -9223372036854775808 ≤ m ∧ m ≤ 9223372036854775807
def Sty.inI (s : Sty) : Prop := Vc.inI s.top ∧ Vc.inI s.bottom ∧ Vc.inI s.padTop ∧ Vc.inI s.padBottom ∧ Vc.inI s.inset ∧ Vc.inI s.orphans ∧ Vc.inI s.widows ∧ Vc.inI s.head ∧ Vc.inI s.before ∧ Vc.inI s.after ∧ Vc.inI s.inside ∧ Vc.inI s.clear
/-- a node that is read -/
def Nd.real (x : Nd) : Prop := (Vc.inI x.kind ∧ Vc.inI x.size ∧ x.st.inI ∧ Vc.inI x.line ∧ Vc.inI x.space ∧ Vc.inI x.side ∧ Vc.inI x.w ∧ Vc.inI x.h) ∧ x.words.length ≤ 17592186043904 ∧ ∀ n ∈ x.words, Vc.inI n
section
variable {P : Program} {n : Nat} {t : TypeId} {vs : List V}
set_option maxRecDepth 100000 in
theorem shpC_int {k : IntKind} (ht : P.underlying t = some (.int k)) (h : ShpC P (n + 1) t vs) : ∃ m, vs = [.int k m] ∧ (Lit.int k m).wf = true := by
  simpa only [ShpC, ht] using h
set_option maxRecDepth 100000 in
theorem shpC_slice {e : TypeId} (ht : P.underlying t = some (.slice e)) (h : ShpC P (n + 1) t vs) : ∃ rows, vs = [.sl (P.cellsOf e) rows] ∧ rows.length * P.bytesOf e ≤ reachBytes ∧ ∀ r ∈ rows, ∃ cs, ShpC P n e cs ∧ r = rowOf (aggT P e) cs := by
  simpa only [ShpC, ht] using h
set_option maxRecDepth 100000 in
theorem shpC_struct {fs : Array Field} (ht : P.underlying t = some (.struct fs)) (h : ShpC P (n + 1) t vs) : ShpFs (ShpC P n) fs.toList vs := by
  simpa only [ShpC, ht] using h
end
set_option maxRecDepth 100000 in
theorem cells_3 : Try.prog.cellsOf 3 = 1 := by kernel_rfl
set_option maxRecDepth 100000 in
theorem cells_28 : Try.prog.cellsOf 28 = 20 := by kernel_rfl
set_option maxRecDepth 100000 in
theorem agg_3 : aggT Try.prog 3 = false := by kernel_rfl
set_option maxRecDepth 100000 in
theorem agg_22 : aggT Try.prog 22 = false := by kernel_rfl
set_option maxRecDepth 100000 in
theorem agg_28 : aggT Try.prog 28 = true := by kernel_rfl
theorem bytes_3 : Try.prog.bytesOf 3 = 8 := by kernel_rfl
theorem bytes_28 : Try.prog.bytesOf 28 = 176 := by kernel_rfl
set_option maxRecDepth 100000 in
theorem shp_int {n : Nat} {vs : List V} (h : ShpC Try.prog (n + 1) 3 vs) : ∃ m, vs = [vI m] ∧ inI m := by
  obtain ⟨m, h, hw⟩ := shpC_int Try.underlying3 h
  exact ⟨m, h, by simp [Lit.wf, IntKind.min, IntKind.max, IntKind.signed, IntKind.bits] at hw; unfold inI; omega⟩
set_option maxRecDepth 100000 in
theorem shp_ints {n : Nat} {vs : List V} (h : ShpC Try.prog (n + 2) 26 vs) : ∃ l, vs = [encI l] ∧ l.length ≤ 17592186043904 ∧ ∀ n ∈ l, inI n := by
  obtain ⟨rows, rfl, hl, h⟩ := shpC_slice Try.underlying26 h
  obtain ⟨l, rfl, hp⟩ := maps_of (f := vI) (p := inI) fun r hr => by
    obtain ⟨cs, hc, rfl⟩ := h r hr
    obtain ⟨m, rfl, hm⟩ := shp_int hc
    exact ⟨m, by rw [agg_3]; rfl, hm⟩
  rw [bytes_3] at hl
  simp only [List.length_map, reachBytes] at hl
  exact ⟨l, by rw [cells_3]; rfl, by omega, hp⟩
set_option maxRecDepth 100000 in
theorem shp_style {n : Nat} {vs : List V} (h : ShpC Try.prog (n + 2) 25 vs) : ∃ s : Sty, vs = s.cells ∧ s.inI := by
  replace h := shpC_struct Try.underlying25 h
  simp only [ShpFs] at h
  obtain ⟨_, _, rfl, h1, _, _, rfl, h2, _, _, rfl, h3, _, _, rfl, h4, _, _, rfl, h5, _, _, rfl, h6, _, _, rfl, h7, _, _, rfl, h8, _, _, rfl, h9, _, _, rfl, h10, _, _, rfl, h11, _, _, rfl, h12, rfl⟩ := h
  obtain ⟨m1, rfl, g1⟩ := shp_int h1
  obtain ⟨m2, rfl, g2⟩ := shp_int h2
  obtain ⟨m3, rfl, g3⟩ := shp_int h3
  obtain ⟨m4, rfl, g4⟩ := shp_int h4
  obtain ⟨m5, rfl, g5⟩ := shp_int h5
  obtain ⟨m6, rfl, g6⟩ := shp_int h6
  obtain ⟨m7, rfl, g7⟩ := shp_int h7
  obtain ⟨m8, rfl, g8⟩ := shp_int h8
  obtain ⟨m9, rfl, g9⟩ := shp_int h9
  obtain ⟨m10, rfl, g10⟩ := shp_int h10
  obtain ⟨m11, rfl, g11⟩ := shp_int h11
  obtain ⟨m12, rfl, g12⟩ := shp_int h12
  exact ⟨⟨m1, m2, m3, m4, m5, m6, m7, m8, m9, m10, m11, m12⟩, rfl, g1, g2, g3, g4, g5, g6, g7, g8, g9, g10, g11, g12⟩
set_option maxRecDepth 100000 in
theorem shp_node {n : Nat} {vs : List V} (h : ShpC Try.prog (n + 3) 28 vs) : ∃ x : Nd, vs = x.cells ∧ x.real := by
  replace h := shpC_struct Try.underlying28 h
  simp only [ShpFs] at h
  obtain ⟨_, _, rfl, h1, _, _, rfl, h2, _, _, rfl, h3, _, _, rfl, h4, _, _, rfl, h5, _, _, rfl, h6, _, _, rfl, h7, _, _, rfl, h8, _, _, rfl, h9, rfl⟩ := h
  obtain ⟨m1, rfl, g1⟩ := shp_int h1
  obtain ⟨m2, rfl, g2⟩ := shp_int h2
  obtain ⟨s, rfl, g3⟩ := shp_style h3
  obtain ⟨m4, rfl, g4⟩ := shp_int h4
  obtain ⟨m5, rfl, g5⟩ := shp_int h5
  obtain ⟨ws, rfl, g6, g6'⟩ := shp_ints h6
  obtain ⟨m7, rfl, g7⟩ := shp_int h7
  obtain ⟨m8, rfl, g8⟩ := shp_int h8
  obtain ⟨m9, rfl, g9⟩ := shp_int h9
  exact ⟨⟨m1, m2, s, m4, m5, ws, m7, m8, m9⟩, rfl, ⟨g1, g2, g3, g4, g5, g7, g8, g9⟩, g6, g6'⟩
set_option maxRecDepth 100000 in
theorem shp_nodes {n : Nat} {vs : List V} (h : ShpC Try.prog (n + 4) 22 vs) : ∃ l, vs = [encNs l] ∧ l.length ≤ 800000000000 ∧ ∀ x ∈ l, x.real := by
  obtain ⟨rows, rfl, hl, h⟩ := shpC_slice Try.underlying22 h
  obtain ⟨l, rfl, hp⟩ := maps_of (f := encN) (p := Nd.real) fun r hr => by
    obtain ⟨cs, hc, rfl⟩ := h r hr
    obtain ⟨x, rfl, hx⟩ := shp_node hc
    exact ⟨x, by rw [agg_28]; rfl, hx⟩
  rw [bytes_28] at hl
  simp only [List.length_map, reachBytes] at hl
  exact ⟨l, by rw [cells_28]; rfl, by omega, hp⟩
set_option maxRecDepth 100000 in
theorem arg_nodes {n : Nat} {vs : List V} (h : ShpC Try.prog (n + 4) 22 vs) : ∃ l, argOf Try.prog 22 vs = encNs l ∧ l.length ≤ 800000000000 ∧ ∀ x ∈ l, x.real := by
  obtain ⟨l, rfl, h1, h2⟩ := shp_nodes h
  exact ⟨l, by unfold argOf; rw [agg_22]; rfl, h1, h2⟩
end Go.Vc
namespace Go.Vc
open Go.Proofs
theorem rowsB_inner (l : List Nd) : ∀ (m a e : Nat), e - a < m → e ≤ l.length → rowsB l a e = true → ∀ k, a ≤ k → (h : k < e) → (h2 : k < l.length) → rowsB l (k + 1) (k + l[k].size.toNat) = true
  | 0, _, _, h, _, _ => by omega
  | m + 1, a, e, hm, he, hr => by
    intro k hk hke h2
    have hae : a < e := by omega
    have ha : a < l.length := by omega
    rw [rowsB, dif_pos hae] at hr
    have hga : l[a]? = some l[a] := by simp [ha]
    rw [hga] at hr
    simp only at hr
    split at hr
    · rename_i hx
      simp only [Bool.and_eq_true] at hr
      obtain ⟨⟨h3, h4⟩, h5⟩ := hr
      by_cases hka : k = a
      · subst hka; exact h4
      · by_cases hin : k < a + l[a].size.toNat
        · exact rowsB_inner l m (a + 1) (a + l[a].size.toNat) (by omega) (by omega) h4 k (by omega) hin h2
        · exact rowsB_inner l m (a + l[a].size.toNat) e (by omega) he h5 k (by omega) hke h2
    · cases hr
def hof (x : Nd) : Int := if x.kind = 1 then x.st.top + x.st.bottom + x.st.padTop + x.st.padBottom + x.st.head else if x.kind = 2 then x.line * x.words.length else x.h
def hsum : List Nd → Int
  | [] => 0
  | x :: l => hof x + hsum l
end Go.Vc
namespace Go.Vc
open Go.Proofs
def V.flat : V → Bool
  | .agg vs => vs.all V.lone
  | v => v.lone
theorem RepAll.lone {μ μ' : Mu} {ow ow' : Nat → Prop} {w w' : World} : ∀ {vs : List V} {l : List Value}, vs.all V.lone = true → RepAll μ ow w vs l → RepAll μ' ow' w' vs l
  | [], l, _, h => by simpa [RepAll] using h
  | v :: vs, l, hv, h => by
    simp only [List.all_cons, Bool.and_eq_true] at hv
    simp only [RepAll] at h ⊢
    obtain ⟨x, xs, rfl, h1, h2⟩ := h
    exact ⟨x, xs, rfl, Rep.lone hv.1 h1, RepAll.lone hv.2 h2⟩
theorem Rep.flat {μ μ' : Mu} {ow ow' : Nat → Prop} {w w' : World} {v : V} {x : Value} (hv : v.flat = true) (h : Rep μ ow w v x) : Rep μ' ow' w' v x := by
  cases v <;> try exact Rep.lone hv h
  rename_i vs
  simp only [Rep] at h ⊢
  obtain ⟨vals, rfl, h1, h2⟩ := h
  exact ⟨vals, rfl, RepAll.lone hv h1, h2⟩
theorem RepAll.flat {μ μ' : Mu} {ow ow' : Nat → Prop} {w w' : World} : ∀ {vs : List V} {l : List Value}, vs.all V.flat = true → RepAll μ ow w vs l → RepAll μ' ow' w' vs l
  | [], l, _, h => by simpa [RepAll] using h
  | v :: vs, l, hv, h => by
    simp only [List.all_cons, Bool.and_eq_true] at hv
    simp only [RepAll] at h ⊢
    obtain ⟨x, xs, rfl, h1, h2⟩ := h
    exact ⟨x, xs, rfl, Rep.flat hv.1 h1, RepAll.flat hv.2 h2⟩
theorem sliceV_encNs {σ : Store} {l : List Nd} {s e : Int} (h1 : 0 ≤ s) (h2 : s ≤ e) (h3 : e ≤ l.length) :
    sliceV σ 20 (encNs l) (some (.int .i64 s)) (some (.int .i64 e)) none = some (encNs ((l.drop s.toNat).take (e.toNat - s.toNat))) := by
  simp only [encNs, sliceV, boundV, List.length_map]
  rw [if_pos ⟨h1, h2, h3, Int.le_refl _, trivial⟩]
  simp [List.map_take, List.map_drop]
end Go.Vc
namespace Go.Vc
open Go.Proofs
theorem effR_put {P : Program} {n : Nat} {Q : St → Prop} {k : List It} {O : Orc P} {f : Nat} {d : Option Nat} {l : List VIns} {v : Nat → V} {ob : Ob} {s : Nat → V} {σ : Store} {e : Option Nat}
    (h : ∀ id σ', SubStore (delO σ e) σ' → σ' id = some ob → σ id = none → step P O n f (.r (.ops l :: k)) ⟨putO s d (v id), σ'⟩ Q) :
    effR P O n f l k d ⟨s, σ⟩ Q (some fun id => (v id, Vc.upd (delO σ e) id ob)) := by
  rw [effR_some]
  refine fun id hid => h id _ ((SubStore.refl _).upd ?_) upd_same hid
  cases e with
  | none => exact hid
  | some e =>
    simp only [delO, del]
    split
    · rfl
    · exact hid
theorem effD_put {P : Program} {n : Nat} {Q : St → Prop} {k : List It} {O : Orc P} {f : Nat} {d : Option Nat} {l : List VIns} {v : Nat → V} {ob : Ob} {s : Nat → V} {σ : Store} {e : Option Nat}
    (h : ∀ id σ', SubStore (delO σ e) σ' → σ' id = some ob → σ id = none → step P O n f (.d l k) ⟨putO s d (v id), σ'⟩ Q) :
    effD P O n f l k d ⟨s, σ⟩ Q (some fun id => (v id, Vc.upd (delO σ e) id ob)) := by
  rw [effD_some]
  refine fun id hid => h id _ ((SubStore.refl _).upd ?_) upd_same hid
  cases e with
  | none => exact hid
  | some e =>
    simp only [delO, del]
    split
    · rfl
    · exact hid
/-- what is appended to -/
theorem OutV.dst {K σ : Store} {e sz : Nat} {v : V} {rows : List V} (h : OutV K σ e sz v rows) {σ1 : Store} (hs : SubStore σ σ1) :
    ∃ idA, dstRows σ1 e sz v = some (rows, idA) ∧ ∀ K' : Store, SubStore K' K → ∀ σ2, SubStore K' σ2 → SubStore K' (delO σ2 idA) := by
  rcases h with ⟨rfl, rfl⟩ | ⟨id, rfl, ho, hk⟩
  · exact ⟨none, rfl, fun _ _ _ h => h⟩
  · refine ⟨some id, ?_, fun K' hK σ2 h => h.delK (hK.none hk)⟩
    simp only [dstRows, hs _ _ ho]
    rw [if_pos ⟨trivial, trivial, trivial, Nat.le_refl _⟩, List.take_length]
theorem OutV.start {K σ : Store} {e sz : Nat} : OutV K σ e sz .nils [] := .inl ⟨rfl, rfl⟩
theorem OutV.new {K σ : Store} {e sz id : Nat} {rows : List V} {n : Nat} (hn : n = rows.length) (h : σ id = some ⟨e, sz, rows⟩) (hk : K id = none) : OutV K σ e sz (.own id 0 n) rows := by
  subst hn; exact .inr ⟨id, rfl, h, hk⟩
theorem OutV.len {K σ : Store} {e sz : Nat} {v : V} {rows : List V} (h : OutV K σ e sz v rows) : lenV false v = some (.int .i64 rows.length) := by
  rcases h with ⟨rfl, rfl⟩ | ⟨id, rfl, ho, hk⟩ <;> rfl
theorem OutV.mono {K σ σ' : Store} {e sz : Nat} {v : V} {rows : List V} (h : OutV K σ e sz v rows) (hs : SubStore σ σ') : OutV K σ' e sz v rows := by
  rcases h with h | ⟨id, h1, h2, h3⟩
  · exact .inl h
  · exact .inr ⟨id, h1, hs _ _ h2, h3⟩
/-- what is kept, and a row that is new -/
theorem srcOne {σ : Store} {id e sz : Nat} {r : V} (h : σ id = some ⟨e, sz, [r]⟩) : srcRows σ sz (.own id 0 1) = some [r] := by
  simp [srcRows, h]
def szI (l : List Nd) (i : Nat) : Int := ((l[i]?).map Nd.size).getD 0
def kdI (l : List Nd) (i : Nat) : Int := ((l[i]?).map Nd.kind).getD 0
def hasI (l : List Nd) (a : Int) : Bool := decide (0 ≤ a) && decide (a < l.length)
def holdsI (l : List Nd) (a b : Int) : Bool := hasI l a && (hasI l b && (decide (b ≥ a) && decide (b - a < szI l a.toNat)))
def aboveD (l : List Nd) (a : Nat) : Nat → List Int
  | 0 => []
  | k + 1 => if holdsI l k a then (k : Int) :: aboveD l a k else aboveD l a k
def parD (l : List Nd) (a : Nat) : Nat → Int
  | 0 => -1
  | k + 1 => if holdsI l k a then (k : Int) else parD l a k
def parR (l : List Nd) (a : Nat) : Int := parD l a a
def kidsR (l : List Nd) (a : Int) : List Int := ((List.range l.length).filter fun i => decide (parR l i = a)).map fun (i : Nat) => (i : Int)
def lastEnd (l : List Nd) (into : Int) (ks : List Int) : Int := ks.foldl (fun _ k => k + szI l k.toNat) (into + 1)
def placesR (l : List Nd) (into : Int) : List Int := kidsR l into ++ [lastEnd l into (kidsR l into)]
def blockR (l : List Nd) (a : Int) : Bool := hasI l a && decide (kdI l a.toNat = 1)
theorem hasI_iff {l : List Nd} {a : Int} : hasI l a = true ↔ 0 ≤ a ∧ a < l.length := by simp [hasI]
theorem szI_eq {l : List Nd} {i : Nat} (h : i < l.length) : szI l i = l[i].size := by simp [szI, h]
theorem kdI_eq {l : List Nd} {i : Nat} (h : i < l.length) : kdI l i = l[i].kind := by simp [kdI, h]
theorem isB_size {l : List Nd} (h : isB l = true) {i : Nat} (hi : i < l.length) : 1 ≤ l[i].size ∧ l[i].size ≤ (l.length : Int) - i ∧ (l[i].kind = 1 ∨ l[i].size ≤ 1) := by
  simp only [isB, Bool.and_eq_true] at h
  exact rowsB_size l (l.length + 1) 0 l.length (by omega) (Nat.le_refl _) h.2 i (by omega) hi hi
theorem idxAV_encNsI {σ : Store} {l : List Nd} {a : Int} (h0 : 0 ≤ a) (h : a.toNat < l.length) : idxAV σ 20 (encNs l) (.int .i64 a) = some (.rp (.agg (Nd.cells l[a.toNat]))) := by
  simp [encNs, idxAV, h0, h, encN]
set_option maxRecDepth 100000 in
theorem has8_c (l : List Nd) (a : Int) : PFun Try.prog 76 [encNs l, vI a] (.bool (hasI l a)) := fun σ => by
  refine Contract.of_runs Try.func76 e76 k76 (by simp [c76]) ?_
  refine Runs.mix 6 ?_
  (refine Runs.of_step Orc.nothing 300 ?_; simp -implicitDefEqProofs only [BB, effR_some, effD_some, Int.reduceEq, Int.reduceNe, Int.reduceLT, Int.reduceLE, Int.reduceGT, Int.reduceGE, Nat.reduceEqDiff, Nat.reduceAdd, Nat.reduceMul, Nat.reduceLeDiff, Nat.reduceSub, Nat.reduceLT, Nat.reduceBEq, ↓reduceIte, reduceCtorEq, ← decide_not, okind, vpre, vpure, intBin, intPre, strBin, strPre, popTo, argSlots, fldV, fldAV, subCells, idxVV, idxAAV, idxSV, sliceV, sliceSV, boundV, szIs, storeOp, storeS, setRowV, eff, extV, buildV, splice, eqSV, fitsL, eqCells, eqCell, minmaxV, capV, binBV, nilCheckV, bytesV, V.cells, V.stays, Orc.nothing, c76, lenV_encNs])
  refine And.intro (fun h => ?_) (fun h => ?_)
  · refine RetV.same ?_
    simp [hasI]; omega
  · refine RetV.same ?_
    simp [hasI]; omega
set_option maxRecDepth 100000 in
theorem holds_c (l : List Nd) (hl : l.length ≤ 1000000000) (a b : Int) : PFun Try.prog 51 [encNs l, vI a, vI b] (.bool (holdsI l a b)) := fun σ => by
  refine Contract.of_runs Try.func51 e51 k51 (by simp [c51]) ?_
  refine Runs.mix 8 ?_
  (refine Runs.of_step Orc.nothing 300 ?_; simp -implicitDefEqProofs only [BB, effR_some, effD_some, Int.reduceEq, Int.reduceNe, Int.reduceLT, Int.reduceLE, Int.reduceGT, Int.reduceGE, Nat.reduceEqDiff, Nat.reduceAdd, Nat.reduceMul, Nat.reduceLeDiff, Nat.reduceSub, Nat.reduceLT, Nat.reduceBEq, ↓reduceIte, reduceCtorEq, ← decide_not, okind, vpre, vpure, intBin, intPre, strBin, strPre, popTo, argSlots, fldV, fldAV, subCells, idxVV, idxAAV, idxSV, sliceV, sliceSV, boundV, szIs, storeOp, storeS, setRowV, eff, extV, buildV, splice, eqSV, fitsL, eqCells, eqCell, minmaxV, capV, binBV, nilCheckV, bytesV, V.cells, V.stays, Orc.nothing, c51])
  refine Runs.pcall rfl rfl rfl (has8_c l a _) ?_
  cases ha : hasI l a
  · (refine Runs.of_step Orc.nothing 300 ?_; simp -implicitDefEqProofs only [BB, effR_some, effD_some, Int.reduceEq, Int.reduceNe, Int.reduceLT, Int.reduceLE, Int.reduceGT, Int.reduceGE, Nat.reduceEqDiff, Nat.reduceAdd, Nat.reduceMul, Nat.reduceLeDiff, Nat.reduceSub, Nat.reduceLT, Nat.reduceBEq, ↓reduceIte, reduceCtorEq, ← decide_not, okind, vpre, vpure, intBin, intPre, strBin, strPre, popTo, argSlots, fldV, fldAV, subCells, idxVV, idxAAV, idxSV, sliceV, sliceSV, boundV, szIs, storeOp, storeS, setRowV, eff, extV, buildV, splice, eqSV, fitsL, eqCells, eqCell, minmaxV, capV, binBV, nilCheckV, bytesV, V.cells, V.stays, Orc.nothing, ha])
    refine RetV.same ?_
    simp [holdsI, ha]
  · (refine Runs.of_step Orc.nothing 300 ?_; simp -implicitDefEqProofs only [BB, effR_some, effD_some, Int.reduceEq, Int.reduceNe, Int.reduceLT, Int.reduceLE, Int.reduceGT, Int.reduceGE, Nat.reduceEqDiff, Nat.reduceAdd, Nat.reduceMul, Nat.reduceLeDiff, Nat.reduceSub, Nat.reduceLT, Nat.reduceBEq, ↓reduceIte, reduceCtorEq, ← decide_not, okind, vpre, vpure, intBin, intPre, strBin, strPre, popTo, argSlots, fldV, fldAV, subCells, idxVV, idxAAV, idxSV, sliceV, sliceSV, boundV, szIs, storeOp, storeS, setRowV, eff, extV, buildV, splice, eqSV, fitsL, eqCells, eqCell, minmaxV, capV, binBV, nilCheckV, bytesV, V.cells, V.stays, Orc.nothing, ha])
    refine Runs.pcall rfl rfl rfl (has8_c l b _) ?_
    cases hb : hasI l b
    · (refine Runs.of_step Orc.nothing 300 ?_; simp -implicitDefEqProofs only [BB, effR_some, effD_some, Int.reduceEq, Int.reduceNe, Int.reduceLT, Int.reduceLE, Int.reduceGT, Int.reduceGE, Nat.reduceEqDiff, Nat.reduceAdd, Nat.reduceMul, Nat.reduceLeDiff, Nat.reduceSub, Nat.reduceLT, Nat.reduceBEq, ↓reduceIte, reduceCtorEq, ← decide_not, okind, vpre, vpure, intBin, intPre, strBin, strPre, popTo, argSlots, fldV, fldAV, subCells, idxVV, idxAAV, idxSV, sliceV, sliceSV, boundV, szIs, storeOp, storeS, setRowV, eff, extV, buildV, splice, eqSV, fitsL, eqCells, eqCell, minmaxV, capV, binBV, nilCheckV, bytesV, V.cells, V.stays, Orc.nothing, hb])
      refine RetV.same ?_
      simp [holdsI, ha, hb]
    · rw [hasI_iff] at ha hb
      have hlt : a.toNat < l.length := by omega
      (refine Runs.of_step Orc.nothing 300 ?_; simp -implicitDefEqProofs only [BB, effR_some, effD_some, Int.reduceEq, Int.reduceNe, Int.reduceLT, Int.reduceLE, Int.reduceGT, Int.reduceGE, Nat.reduceEqDiff, Nat.reduceAdd, Nat.reduceMul, Nat.reduceLeDiff, Nat.reduceSub, Nat.reduceLT, Nat.reduceBEq, ↓reduceIte, reduceCtorEq, ← decide_not, okind, vpre, vpure, intBin, intPre, strBin, strPre, popTo, argSlots, fldV, fldAV, subCells, idxVV, idxAAV, idxSV, sliceV, sliceSV, boundV, szIs, storeOp, storeS, setRowV, eff, extV, buildV, splice, eqSV, fitsL, eqCells, eqCell, minmaxV, capV, binBV, nilCheckV, bytesV, V.cells, V.stays, Orc.nothing, hb, idxAV_encNsI ha.1 hlt, Nd.cells])
      refine And.intro (fun h => ⟨inR_i64 (by omega) (by omega), ?_⟩) (fun h => ?_)
      · refine RetV.same ?_
        have ha' := hasI_iff.2 ha
        have hb' := hasI_iff.2 hb
        simp [holdsI, ha', hb', szI_eq hlt]
        omega
      · refine RetV.same ?_
        have ha' := hasI_iff.2 ha
        have hb' := hasI_iff.2 hb
        simp [holdsI, ha', hb', szI_eq hlt]
        omega
set_option maxRecDepth 100000 in
theorem above_c (l : List Nd) (hl : l.length ≤ 1000000000) (a : Nat) (ha : a < l.length) : PFun Try.prog 95 [encNs l, vI a] (encI (aboveD l a a)) := fun σ => by
  refine Contract.of_runs Try.func95 e95 k95 (by simp [c95]) ?_
  refine Runs.mix 7 ?_
  (refine Runs.of_step Orc.nothing 300 ?_; simp -implicitDefEqProofs only [BB, effR_some, effD_some, Int.reduceEq, Int.reduceNe, Int.reduceLT, Int.reduceLE, Int.reduceGT, Int.reduceGE, Nat.reduceEqDiff, Nat.reduceAdd, Nat.reduceMul, Nat.reduceLeDiff, Nat.reduceSub, Nat.reduceLT, Nat.reduceBEq, ↓reduceIte, reduceCtorEq, ← decide_not, okind, vpre, vpure, intBin, intPre, strBin, strPre, popTo, argSlots, fldV, fldAV, subCells, idxVV, idxAAV, idxSV, sliceV, sliceSV, boundV, szIs, storeOp, storeS, setRowV, eff, extV, buildV, splice, eqSV, fitsL, eqCells, eqCell, minmaxV, capV, binBV, nilCheckV, bytesV, V.cells, V.stays, Orc.nothing, c95])
  refine ⟨inR_i64 (by omega) (by omega), ?_⟩
  refine Runs.loop (fun m st => ∃ (k : Nat) (out : List Int), k ≤ a ∧ m = k ∧ aboveD l a a = out ++ aboveD l a k ∧ out.length ≤ a - k ∧ SubStore σ st.σ ∧ OutV σ st.σ 3 1 (st.s 5) (out.map vI) ∧ st.s 0 = encNs l ∧ st.s 1 = vI a ∧ st.s 6 = vI ((k : Int) - 1)) a ?_ ?_
  · exact ⟨a, [], by omega, rfl, rfl, by simp, SubStore.refl σ, OutV.start, rfl, rfl, rfl⟩
  · rintro m ⟨s, σ'⟩ ⟨k, out, hk, rfl, heq, hlen, hsub, hout, h0, h1, h6⟩
    simp only at hsub hout h0 h1 h6
    refine Runs.mix 7 ?_
    (refine Runs.of_step Orc.nothing 300 ?_; simp -implicitDefEqProofs only [BB, effR_some, effD_some, Int.reduceEq, Int.reduceNe, Int.reduceLT, Int.reduceLE, Int.reduceGT, Int.reduceGE, Nat.reduceEqDiff, Nat.reduceAdd, Nat.reduceMul, Nat.reduceLeDiff, Nat.reduceSub, Nat.reduceLT, Nat.reduceBEq, ↓reduceIte, reduceCtorEq, ← decide_not, okind, vpre, vpure, intBin, intPre, strBin, strPre, popTo, argSlots, fldV, fldAV, subCells, idxVV, idxAAV, idxSV, sliceV, sliceSV, boundV, szIs, storeOp, storeS, setRowV, eff, extV, buildV, splice, eqSV, fitsL, eqCells, eqCell, minmaxV, capV, binBV, nilCheckV, bytesV, V.cells, V.stays, Orc.nothing, h0, h1, h6])
    refine And.intro (fun h => ?_) (fun h => ?_)
    · obtain ⟨k, rfl⟩ : ∃ j, m = j + 1 := ⟨m - 1, by omega⟩
      refine Runs.pcall rfl rfl rfl (has8_c l a _) ?_
      have hha : hasI l a = true := hasI_iff.2 ⟨by omega, by omega⟩
      have e1 : ((k + 1 : Nat) : Int) - 1 = k := by omega
      (refine Runs.of_step Orc.nothing 300 ?_; simp -implicitDefEqProofs only [BB, effR_some, effD_some, Int.reduceEq, Int.reduceNe, Int.reduceLT, Int.reduceLE, Int.reduceGT, Int.reduceGE, Nat.reduceEqDiff, Nat.reduceAdd, Nat.reduceMul, Nat.reduceLeDiff, Nat.reduceSub, Nat.reduceLT, Nat.reduceBEq, ↓reduceIte, reduceCtorEq, ← decide_not, okind, vpre, vpure, intBin, intPre, strBin, strPre, popTo, argSlots, fldV, fldAV, subCells, idxVV, idxAAV, idxSV, sliceV, sliceSV, boundV, szIs, storeOp, storeS, setRowV, eff, extV, buildV, splice, eqSV, fitsL, eqCells, eqCell, minmaxV, capV, binBV, nilCheckV, bytesV, V.cells, V.stays, Orc.nothing, hha, h0, h1, h6, e1])
      refine Runs.pcall rfl rfl rfl (holds_c l hl k a _) ?_
      cases hh : holdsI l k a
      · (refine Runs.of_step Orc.nothing 300 ?_; simp -implicitDefEqProofs only [BB, effR_some, effD_some, Int.reduceEq, Int.reduceNe, Int.reduceLT, Int.reduceLE, Int.reduceGT, Int.reduceGE, Nat.reduceEqDiff, Nat.reduceAdd, Nat.reduceMul, Nat.reduceLeDiff, Nat.reduceSub, Nat.reduceLT, Nat.reduceBEq, ↓reduceIte, reduceCtorEq, ← decide_not, okind, vpre, vpure, intBin, intPre, strBin, strPre, popTo, argSlots, fldV, fldAV, subCells, idxVV, idxAAV, idxSV, sliceV, sliceSV, boundV, szIs, storeOp, storeS, setRowV, eff, extV, buildV, splice, eqSV, fitsL, eqCells, eqCell, minmaxV, capV, binBV, nilCheckV, bytesV, V.cells, V.stays, Orc.nothing, hh, h0, h1, h6, e1])
        refine ⟨inR_i64 (by omega) (by omega), _, ?_, k, out, by omega, rfl, ?_, by omega, hsub, hout, rfl⟩
        · omega
        · rw [heq, aboveD, hh]; rfl
      · (refine Runs.of_step Orc.nothing 300 ?_; simp -implicitDefEqProofs only [BB, Int.reduceEq, Int.reduceNe, Int.reduceLT, Int.reduceLE, Int.reduceGT, Int.reduceGE, Nat.reduceEqDiff, Nat.reduceAdd, Nat.reduceMul, Nat.reduceLeDiff, Nat.reduceSub, Nat.reduceLT, Nat.reduceBEq, ↓reduceIte, reduceCtorEq, ← decide_not, okind, vpre, vpure, intBin, intPre, strBin, strPre, popTo, argSlots, fldV, fldAV, subCells, idxVV, idxAAV, idxSV, sliceV, sliceSV, boundV, szIs, storeOp, storeS, setRowV, eff, extV, buildV, splice, eqSV, fitsL, eqCells, eqCell, minmaxV, capV, binBV, nilCheckV, bytesV, V.cells, V.stays, Orc.nothing, hh, h0, h1, h6, e1])
        refine effR_new fun id1 σ1 s1 a1 f1 => ?_
        obtain ⟨idA, hd, hdel⟩ := hout.dst s1
        have hb : out.length + 1 ≤ a := by omega
        have hb2 : (out.length + 1) * 9 ≤ 140737488355328 := by omega
        simp -implicitDefEqProofs only [BB, Int.reduceEq, Int.reduceNe, Int.reduceLT, Int.reduceLE, Int.reduceGT, Int.reduceGE, Nat.reduceEqDiff, Nat.reduceAdd, Nat.reduceMul, Nat.reduceLeDiff, Nat.reduceSub, Nat.reduceLT, Nat.reduceBEq, ↓reduceIte, reduceCtorEq, ← decide_not, okind, vpre, vpure, intBin, intPre, strBin, strPre, popTo, argSlots, fldV, fldAV, subCells, idxVV, idxAAV, idxSV, sliceV, sliceSV, boundV, szIs, storeOp, storeS, setRowV, eff, extV, buildV, splice, eqSV, fitsL, eqCells, eqCell, minmaxV, capV, binBV, nilCheckV, bytesV, V.cells, V.stays, hd, srcOne a1, List.length_map, hb2, h0, h1, h6, e1]
        refine effR_put fun id2 σ2 s2 a2 f2 => ?_
        simp -implicitDefEqProofs only [BB, Int.reduceEq, Int.reduceNe, Int.reduceLT, Int.reduceLE, Int.reduceGT, Int.reduceGE, Nat.reduceEqDiff, Nat.reduceAdd, Nat.reduceMul, Nat.reduceLeDiff, Nat.reduceSub, Nat.reduceLT, Nat.reduceBEq, ↓reduceIte, reduceCtorEq, ← decide_not, okind, vpre, vpure, intBin, intPre, strBin, strPre, popTo, argSlots, fldV, fldAV, subCells, idxVV, idxAAV, idxSV, sliceV, sliceSV, boundV, szIs, storeOp, storeS, setRowV, eff, extV, buildV, splice, eqSV, fitsL, eqCells, eqCell, minmaxV, capV, binBV, nilCheckV, bytesV, V.cells, V.stays, h0, h1, h6, e1]
        have hs2 := (hdel σ (SubStore.refl σ) σ1 (hsub.trans s1)).trans s2
        refine ⟨inR_i64 (by omega) (by omega), _, ?_, k, out ++ [(k : Int)], by omega, rfl, ?_, by simp; omega, hs2, ?_, rfl⟩
        · omega
        · rw [heq, aboveD, hh]; simp
        · exact OutV.new (by simp) (by rw [a2]; simp) ((hsub.trans s1).none f2)
    · have hk0 : m = 0 := by omega
      subst hk0
      refine hout.retv hsub ?_
      rw [heq, aboveD]; simp [encI]
theorem aboveD_head (l : List Nd) (a : Nat) : ∀ k, (aboveD l a k).length = 0 ∧ parD l a k = -1 ∨ ∃ x r, aboveD l a k = x :: r ∧ parD l a k = x
  | 0 => .inl ⟨rfl, rfl⟩
  | k + 1 => by
    rw [aboveD, parD]
    split
    · exact .inr ⟨_, _, rfl, rfl⟩
    · exact aboveD_head l a k
theorem parD_range (l : List Nd) (a : Nat) : ∀ k, -1 ≤ parD l a k ∧ parD l a k < k
  | 0 => by simp [parD]
  | k + 1 => by
    rw [parD]
    split
    · omega
    · have := parD_range l a k; omega
set_option maxRecDepth 100000 in
theorem parent_c (l : List Nd) (hl : l.length ≤ 1000000000) (a : Nat) (ha : a < l.length) : PFun Try.prog 81 [encNs l, vI a] (vI (parR l a)) := fun σ => by
  refine Contract.of_runs Try.func81 e81 k81 (by simp [c81]) ?_
  refine Runs.mix 6 ?_
  (refine Runs.of_step Orc.nothing 300 ?_; simp -implicitDefEqProofs only [BB, effR_some, effD_some, Int.reduceEq, Int.reduceNe, Int.reduceLT, Int.reduceLE, Int.reduceGT, Int.reduceGE, Nat.reduceEqDiff, Nat.reduceAdd, Nat.reduceMul, Nat.reduceLeDiff, Nat.reduceSub, Nat.reduceLT, Nat.reduceBEq, ↓reduceIte, reduceCtorEq, ← decide_not, okind, vpre, vpure, intBin, intPre, strBin, strPre, popTo, argSlots, fldV, fldAV, subCells, idxVV, idxAAV, idxSV, sliceV, sliceSV, boundV, szIs, storeOp, storeS, setRowV, eff, extV, buildV, splice, eqSV, fitsL, eqCells, eqCell, minmaxV, capV, binBV, nilCheckV, bytesV, V.cells, V.stays, Orc.nothing, c81])
  refine Runs.pcall rfl rfl rfl (above_c l hl a ha _) ?_
  have hh := aboveD_head l a a
  (refine Runs.of_step Orc.nothing 300 ?_; simp -implicitDefEqProofs only [BB, effR_some, effD_some, Int.reduceEq, Int.reduceNe, Int.reduceLT, Int.reduceLE, Int.reduceGT, Int.reduceGE, Nat.reduceEqDiff, Nat.reduceAdd, Nat.reduceMul, Nat.reduceLeDiff, Nat.reduceSub, Nat.reduceLT, Nat.reduceBEq, ↓reduceIte, reduceCtorEq, ← decide_not, okind, vpre, vpure, intBin, intPre, strBin, strPre, popTo, argSlots, fldV, fldAV, subCells, idxVV, idxAAV, idxSV, sliceV, sliceSV, boundV, szIs, storeOp, storeS, setRowV, eff, extV, buildV, splice, eqSV, fitsL, eqCells, eqCell, minmaxV, capV, binBV, nilCheckV, bytesV, V.cells, V.stays, Orc.nothing, lenV_encI])
  refine And.intro (fun h => ?_) (fun h => ?_)
  · refine RetV.same ?_
    rcases hh with ⟨_, h2⟩ | ⟨x, r, h1, h2⟩
    · rw [parR, h2]
    · rw [h1] at h; simp at h; omega
  · rcases hh with ⟨h1, h2⟩ | ⟨x, r, h1, h2⟩
    · exact absurd (by omega) h
    · have hlt : 0 < (aboveD l a a).length := by rw [h1]; simp
      have h3 := idxAV_encI (σ := σ) hlt
      have h4 : (aboveD l a a)[0] = x := by simp [h1]
      rw [h4, Int.natCast_zero] at h3
      simp -implicitDefEqProofs only [BB, effR_some, effD_some, Int.reduceEq, Int.reduceNe, Int.reduceLT, Int.reduceLE, Int.reduceGT, Int.reduceGE, Nat.reduceEqDiff, Nat.reduceAdd, Nat.reduceMul, Nat.reduceLeDiff, Nat.reduceSub, Nat.reduceLT, Nat.reduceBEq, ↓reduceIte, reduceCtorEq, ← decide_not, okind, vpre, vpure, intBin, intPre, strBin, strPre, popTo, argSlots, fldV, fldAV, subCells, idxVV, idxAAV, idxSV, sliceV, sliceSV, boundV, szIs, storeOp, storeS, setRowV, eff, extV, buildV, splice, eqSV, fitsL, eqCells, eqCell, minmaxV, capV, binBV, nilCheckV, bytesV, V.cells, V.stays, h3]
      refine RetV.same ?_
      rw [parR, h2]
set_option maxRecDepth 100000 in
theorem kids_c (l : List Nd) (hl : l.length ≤ 1000000000) (a : Int) : PFun Try.prog 53 [encNs l, vI a] (encI (kidsR l a)) := fun σ => by
  refine Contract.of_runs Try.func53 e53 k53 (by simp [c53]) ?_
  refine Runs.mix 7 ?_
  (refine Runs.of_step Orc.nothing 300 ?_; simp -implicitDefEqProofs only [BB, effR_some, effD_some, Int.reduceEq, Int.reduceNe, Int.reduceLT, Int.reduceLE, Int.reduceGT, Int.reduceGE, Nat.reduceEqDiff, Nat.reduceAdd, Nat.reduceMul, Nat.reduceLeDiff, Nat.reduceSub, Nat.reduceLT, Nat.reduceBEq, ↓reduceIte, reduceCtorEq, ← decide_not, okind, vpre, vpure, intBin, intPre, strBin, strPre, popTo, argSlots, fldV, fldAV, subCells, idxVV, idxAAV, idxSV, sliceV, sliceSV, boundV, szIs, storeOp, storeS, setRowV, eff, extV, buildV, splice, eqSV, fitsL, eqCells, eqCell, minmaxV, capV, binBV, nilCheckV, bytesV, V.cells, V.stays, Orc.nothing, c53])
  refine Runs.loop (fun m st => ∃ (i : Nat) (out : List Int), i ≤ l.length ∧ m = l.length - i ∧ out = (((List.range i).filter fun i => decide (parR l i = a)).map fun (i : Nat) => (i : Int)) ∧ out.length ≤ i ∧ SubStore σ st.σ ∧ OutV σ st.σ 3 1 (st.s 5) (out.map vI) ∧ st.s 0 = encNs l ∧ st.s 1 = vI a ∧ st.s 6 = vI i) l.length ?_ ?_
  · exact ⟨0, [], by omega, rfl, rfl, by simp, SubStore.refl σ, OutV.start, rfl, rfl, rfl⟩
  · rintro m ⟨s, σ'⟩ ⟨i, out, hi, rfl, heq, hlen, hsub, hout, h0, h1, h6⟩
    simp only at hsub hout h0 h1 h6
    refine Runs.mix 7 ?_
    (refine Runs.of_step Orc.nothing 300 ?_; simp -implicitDefEqProofs only [BB, effR_some, effD_some, Int.reduceEq, Int.reduceNe, Int.reduceLT, Int.reduceLE, Int.reduceGT, Int.reduceGE, Nat.reduceEqDiff, Nat.reduceAdd, Nat.reduceMul, Nat.reduceLeDiff, Nat.reduceSub, Nat.reduceLT, Nat.reduceBEq, ↓reduceIte, reduceCtorEq, ← decide_not, okind, vpre, vpure, intBin, intPre, strBin, strPre, popTo, argSlots, fldV, fldAV, subCells, idxVV, idxAAV, idxSV, sliceV, sliceSV, boundV, szIs, storeOp, storeS, setRowV, eff, extV, buildV, splice, eqSV, fitsL, eqCells, eqCell, minmaxV, capV, binBV, nilCheckV, bytesV, V.cells, V.stays, Orc.nothing, h0, h1, h6, lenV_encNs])
    refine And.intro (fun h => ?_) (fun h => ?_)
    · have hlt : i < l.length := by omega
      refine Runs.pcall rfl rfl rfl (parent_c l hl i hlt _) ?_
      have hr := List.range_succ (n := i)
      (refine Runs.of_step Orc.nothing 300 ?_; simp -implicitDefEqProofs only [BB, Int.reduceEq, Int.reduceNe, Int.reduceLT, Int.reduceLE, Int.reduceGT, Int.reduceGE, Nat.reduceEqDiff, Nat.reduceAdd, Nat.reduceMul, Nat.reduceLeDiff, Nat.reduceSub, Nat.reduceLT, Nat.reduceBEq, ↓reduceIte, reduceCtorEq, ← decide_not, okind, vpre, vpure, intBin, intPre, strBin, strPre, popTo, argSlots, fldV, fldAV, subCells, idxVV, idxAAV, idxSV, sliceV, sliceSV, boundV, szIs, storeOp, storeS, setRowV, eff, extV, buildV, splice, eqSV, fitsL, eqCells, eqCell, minmaxV, capV, binBV, nilCheckV, bytesV, V.cells, V.stays, Orc.nothing, h0, h1, h6])
      refine And.intro (fun hp => ?_) (fun hp => ?_)
      · refine effR_new fun id1 σ1 s1 a1 f1 => ?_
        obtain ⟨idA, hd, hdel⟩ := hout.dst s1
        have hb2 : (out.length + 1) * 9 ≤ 140737488355328 := by omega
        simp -implicitDefEqProofs only [BB, Int.reduceEq, Int.reduceNe, Int.reduceLT, Int.reduceLE, Int.reduceGT, Int.reduceGE, Nat.reduceEqDiff, Nat.reduceAdd, Nat.reduceMul, Nat.reduceLeDiff, Nat.reduceSub, Nat.reduceLT, Nat.reduceBEq, ↓reduceIte, reduceCtorEq, ← decide_not, okind, vpre, vpure, intBin, intPre, strBin, strPre, popTo, argSlots, fldV, fldAV, subCells, idxVV, idxAAV, idxSV, sliceV, sliceSV, boundV, szIs, storeOp, storeS, setRowV, eff, extV, buildV, splice, eqSV, fitsL, eqCells, eqCell, minmaxV, capV, binBV, nilCheckV, bytesV, V.cells, V.stays, hd, srcOne a1, List.length_map, hb2, h0, h1, h6]
        refine effR_put fun id2 σ2 s2 a2 f2 => ?_
        simp -implicitDefEqProofs only [BB, Int.reduceEq, Int.reduceNe, Int.reduceLT, Int.reduceLE, Int.reduceGT, Int.reduceGE, Nat.reduceEqDiff, Nat.reduceAdd, Nat.reduceMul, Nat.reduceLeDiff, Nat.reduceSub, Nat.reduceLT, Nat.reduceBEq, ↓reduceIte, reduceCtorEq, ← decide_not, okind, vpre, vpure, intBin, intPre, strBin, strPre, popTo, argSlots, fldV, fldAV, subCells, idxVV, idxAAV, idxSV, sliceV, sliceSV, boundV, szIs, storeOp, storeS, setRowV, eff, extV, buildV, splice, eqSV, fitsL, eqCells, eqCell, minmaxV, capV, binBV, nilCheckV, bytesV, V.cells, V.stays, h0, h1, h6]
        have hs2 := (hdel σ (SubStore.refl σ) σ1 (hsub.trans s1)).trans s2
        refine ⟨inR_i64 (by omega) (by omega), _, ?_, i + 1, out ++ [(i : Int)], by omega, rfl, ?_, by simp; omega, hs2, ?_, rfl⟩
        · omega
        · rw [hr, List.filter_append, List.map_append, ← heq]; simp [hp]
        · exact OutV.new (by simp) (by rw [a2]; simp) ((hsub.trans s1).none f2)
      · refine ⟨inR_i64 (by omega) (by omega), _, ?_, i + 1, out, by omega, rfl, ?_, by omega, hsub, hout, rfl⟩
        · omega
        · rw [hr, List.filter_append, List.map_append, ← heq]; simp [hp]
    · have hie : i = l.length := by omega
      refine hout.retv hsub ?_
      rw [heq, hie]; rfl
end Go.Vc
namespace Go.Vc
open Go.Proofs
theorem kidsR_mem {l : List Nd} {a x : Int} (h : x ∈ kidsR l a) : 0 ≤ x ∧ x.toNat < l.length := by
  simp only [kidsR, List.mem_map, List.mem_filter, List.mem_range] at h
  obtain ⟨i, ⟨h1, _⟩, rfl⟩ := h
  exact ⟨by omega, by simpa using h1⟩
theorem kidsR_len (l : List Nd) (a : Int) : (kidsR l a).length ≤ l.length := by
  simp only [kidsR, List.length_map]
  exact Nat.le_trans (List.length_filter_le _ _) (by simp)
theorem lastEnd_take {l : List Nd} {into : Int} {ks : List Int} {i : Nat} (h : i < ks.length) : lastEnd l into (ks.take (i + 1)) = ks[i] + szI l ks[i].toNat := by
  rw [List.take_succ_eq_append_getElem h, lastEnd, List.foldl_append]
  rfl
theorem srcRows_encI (σ : Store) (l : List Int) : srcRows σ 1 (encI l) = some (l.map vI) := by simp [encI, srcRows]
theorem szI_bound {l : List Nd} (hb : isB l = true) {i : Nat} (h : i < l.length) : 1 ≤ szI l i ∧ szI l i ≤ l.length := by
  rw [szI_eq h]
  have := isB_size hb h
  omega
end Go.Vc
namespace Go.Vc
open Go.Proofs
structure Ed where
  kind : Int
  into : Int
  pos : Int
  many : Int
  sub : List Nd
  st : Sty
  deriving DecidableEq
def Ed.cells (x : Ed) : List V := [.int .i64 x.kind, .int .i64 x.into, .int .i64 x.pos, .int .i64 x.many, encNs x.sub, .int .i64 x.st.top, .int .i64 x.st.bottom, .int .i64 x.st.padTop, .int .i64 x.st.padBottom, .int .i64 x.st.inset, .int .i64 x.st.orphans, .int .i64 x.st.widows, .int .i64 x.st.head, .int .i64 x.st.before, .int .i64 x.st.after, .int .i64 x.st.inside, .int .i64 x.st.clear]
def encE (x : Ed) : V := .agg x.cells
theorem encNs_cells (l : List Nd) : (encNs l).cells = [encNs l] := rfl
theorem encNs_stays (l : List Nd) : (encNs l).stays = true := rfl
end Go.Vc
namespace Go.Vc
open Go.Proofs
/-- the places of a row's nodes, one by one -/
def kidsW (l : List Nd) (a e : Nat) : List Int :=
  if _h : a < e then
    match l[a]? with
    | none => []
    | some x => if _hx : 1 ≤ x.size then (a : Int) :: kidsW l (a + x.size.toNat) e else []
  else []
termination_by e - a
decreasing_by omega
theorem kidsW_cons {l : List Nd} {a e : Nat} (h : a < e) (hl : a < l.length) (hs : 1 ≤ l[a].size) : kidsW l a e = (a : Int) :: kidsW l (a + l[a].size.toNat) e := by
  rw [kidsW, dif_pos h]
  simp only [List.getElem?_eq_getElem hl]
  rw [dif_pos hs]
theorem kidsW_nil {l : List Nd} {a e : Nat} (h : e ≤ a) : kidsW l a e = [] := by
  rw [kidsW, dif_neg (by omega)]
theorem rowsB_ends {l : List Nd} {a e : Nat} (he : e ≤ l.length) (h : rowsB l a e = true) {k : Nat} (h1 : a ≤ k) (h2 : k < e) : (k : Int) + szI l k ≤ e ∧ 1 ≤ szI l k := by
  have := rowsB_size l (e - a + 1) a e (by omega) he h k h1 h2 (by omega)
  rw [szI_eq (by omega)]
  omega
theorem rowsB_next {l : List Nd} {a e : Nat} (he : e ≤ l.length) (h : rowsB l a e = true) (hae : a < e) : rowsB l (a + (szI l a).toNat) e = true ∧ rowsB l (a + 1) (a + (szI l a).toNat) = true := by
  have ha : a < l.length := by omega
  rw [rowsB, dif_pos hae] at h
  simp only [List.getElem?_eq_getElem ha] at h
  rw [szI_eq ha]
  split at h
  · simp only [Bool.and_eq_true] at h
    exact ⟨h.2, h.1.2⟩
  · cases h
theorem parD_none {l : List Nd} {b : Nat} (hb : b < l.length) : ∀ k, k ≤ b → (∀ i, i < k → (i : Int) + szI l i ≤ b) → parD l b k = -1
  | 0, _, _ => rfl
  | k + 1, hk, h => by
    rw [parD, if_neg, parD_none hb k (by omega) (fun i hi => h i (by omega))]
    have := h k (by omega)
    simp only [holdsI, Bool.and_eq_true, decide_eq_true_eq, not_and]
    intro _ _ _
    simp
    omega
/-- the next one that holds it -/
theorem parD_is {l : List Nd} {b p : Nat} (hb : b < l.length) (hpb : (b : Int) < p + szI l p) : ∀ k, p < k → k ≤ b → (∀ i, p < i → i < k → (i : Int) + szI l i ≤ b) → parD l b k = p
  | 0, h, _, _ => by omega
  | k + 1, h, hk, hh => by
    by_cases e : k = p
    · subst e
      rw [parD, if_pos]
      simp only [holdsI, Bool.and_eq_true, decide_eq_true_eq, hasI]
      simp
      omega
    · rw [parD, if_neg, parD_is hb hpb k (by omega) (by omega) (fun i h1 h2 => hh i h1 (by omega))]
      have := hh k (by omega) (by omega)
      simp only [holdsI, Bool.and_eq_true, decide_eq_true_eq, not_and]
      intro _ _ _
      simp
      omega
theorem parD_ge {l : List Nd} {b t : Nat} (hb : b < l.length) (ht : (b : Int) < t + szI l t) : ∀ k, t < k → k ≤ b → (t : Int) ≤ parD l b k
  | 0, h, _ => by omega
  | k + 1, h, hk => by
    rw [parD]
    split
    · omega
    · rename_i hn
      by_cases e : k = t
      · subst e
        exfalso
        apply hn
        simp only [holdsI, Bool.and_eq_true, decide_eq_true_eq, hasI]
        simp
        omega
      · exact parD_ge hb ht k (by omega) (by omega)
/-- p: where the row's block stands, -1: none -/
def Around (l : List Nd) (p : Int) (a e : Nat) : Prop := (p = -1 ∧ a = 0) ∨ ∃ q : Nat, p = q ∧ a = q + 1 ∧ (e : Int) = q + szI l q
theorem kidsW_filter {l : List Nd} {p : Int} {a e : Nat} (he : e ≤ l.length) (hA : Around l p a e) : ∀ (m b : Nat), e - b < m → a ≤ b → b ≤ e → rowsB l b e = true → (∀ i, a ≤ i → i < b → (i : Int) + szI l i ≤ b) →
    ((List.range' b (e - b)).filter fun i => decide (parR l i = p)).map (fun (i : Nat) => (i : Int)) = kidsW l b e
  | 0, _, h, _, _, _, _ => by omega
  | m + 1, b, hm, hab, hbe, hr, hpre => by
    by_cases hlt : b < e
    · have hb : b < l.length := by omega
      obtain ⟨hend, hone⟩ := rowsB_ends he hr (Nat.le_refl b) hlt
      obtain ⟨hr2, hin⟩ := rowsB_next he hr hlt
      have hs : 1 ≤ l[b].size := by rw [← szI_eq hb]; exact hone
      rw [kidsW_cons hlt hb hs, ← szI_eq hb]
      have htn : ((szI l b).toNat : Int) = szI l b := by omega
      generalize hz : (szI l b).toNat = z at *
      have hz1 : 1 ≤ z := by omega
      have e1 : e - b = z + (e - (b + z)) := by omega
      rw [e1, ← List.range'_append_1]
      rw [List.filter_append, List.map_append]
      have ih := kidsW_filter he hA m (b + z) (by omega) (by omega) (by omega) hr2 (fun i h1 h2 => by
        by_cases e2 : i < b
        · have := hpre i h1 e2; omega
        · by_cases e3 : i = b
          · subst e3; omega
          · have := (rowsB_ends (by omega) hin (k := i) (by omega) h2).1; omega)
      rw [ih]
      have hhead : ((List.range' b z).filter fun i => decide (parR l i = p)) = [b] := by
        obtain ⟨z', rfl⟩ : ∃ z', z = z' + 1 := ⟨z - 1, by omega⟩
        rw [List.range'_succ, List.filter_cons]
        have hp : parR l b = p := by
          rcases hA with ⟨rfl, rfl⟩ | ⟨q, rfl, rfl, hq⟩
          · exact parD_none hb b (Nat.le_refl _) (fun i hi => hpre i (by omega) hi)
          · exact parD_is hb (by omega) b (by omega) (Nat.le_refl _) (fun i h1 h2 => hpre i (by omega) h2)
        rw [if_pos (by simpa using hp)]
        have : (List.range' (b + 1) z').filter (fun i => decide (parR l i = p)) = [] := by
          rw [List.filter_eq_nil_iff]
          intro i hi
          rw [List.mem_range'_1] at hi
          have h1 : (b : Int) ≤ parR l i := parD_ge (by omega) (by omega) i (by omega) (Nat.le_refl _)
          have h2 : p < b := by rcases hA with ⟨rfl, rfl⟩ | ⟨q, rfl, rfl, hq⟩ <;> omega
          simp; omega
        rw [this]
      rw [hhead]
      rfl
    · have : e = b := by omega
      subst this
      rw [kidsW_nil (Nat.le_refl _)]
      simp
theorem kidsR_top {l : List Nd} (hb : isB l = true) : kidsR l (-1) = kidsW l 0 l.length := by
  simp only [isB, Bool.and_eq_true] at hb
  have := kidsW_filter (l := l) (p := -1) (a := 0) (Nat.le_refl _) (.inl ⟨rfl, rfl⟩) (l.length + 1) 0 (by omega) (by omega) (by omega) hb.2 (fun i _ h => by omega)
  rw [← this, kidsR, List.range_eq_range']
  simp
theorem kidsR_in {l : List Nd} (hb : isB l = true) {p : Nat} (hp : p < l.length) : kidsR l p = kidsW l (p + 1) (p + (szI l p).toNat) := by
  simp only [isB, Bool.and_eq_true] at hb
  obtain ⟨h1, h2⟩ := rowsB_ends (Nat.le_refl _) hb.2 (Nat.zero_le p) hp
  have hin := rowsB_inner l (l.length + 1) 0 l.length (by omega) (Nat.le_refl _) hb.2 p (by omega) hp hp
  rw [← szI_eq hp] at hin
  have hz : ((szI l p).toNat : Int) = szI l p := by omega
  generalize hze : (szI l p).toNat = z at *
  have := kidsW_filter (l := l) (p := (p : Int)) (a := p + 1) (e := p + z) (by omega) (.inr ⟨p, rfl, rfl, by omega⟩) (l.length + 1) (p + 1) (by omega) (by omega) (by omega) hin (fun i _ h => by omega)
  rw [← this, kidsR, List.range_eq_range']
  have e2 : List.range' 0 l.length = List.range' 0 (p + 1) ++ (List.range' (p + 1) (p + z - (p + 1)) ++ List.range' (p + z) (l.length - (p + z))) := by
    have a1 := List.range'_append_1 (s := p + 1) (m := p + z - (p + 1)) (n := l.length - (p + z))
    have a2 := List.range'_append_1 (s := 0) (m := p + 1) (n := (p + z - (p + 1)) + (l.length - (p + z)))
    rw [show p + 1 + (p + z - (p + 1)) = p + z by omega] at a1
    rw [Nat.zero_add] at a2
    rw [a1, a2]
    congr 1
    omega
  have hA : (List.range' 0 (p + 1)).filter (fun i => decide (parR l i = (p : Int))) = [] := by
    rw [List.filter_eq_nil_iff]
    intro i hi
    rw [List.mem_range'_1] at hi
    have h3 := parD_range l i i
    intro hh
    have hh := of_decide_eq_true hh
    unfold parR at hh
    omega
  have hC : (List.range' (p + z) (l.length - (p + z))).filter (fun i => decide (parR l i = (p : Int))) = [] := by
    rw [List.filter_eq_nil_iff]
    intro i hi
    rw [List.mem_range'_1] at hi
    simp only [decide_eq_true_eq]
    intro hpar
    have : ∀ k, k ≤ i → parD l i k = (p : Int) → holdsI l p i = true := by
      intro k
      induction k with
      | zero => intro _ h; simp only [parD] at h; omega
      | succ k ih =>
        intro hk h
        rw [parD] at h
        split at h
        · rename_i hh
          have : k = p := by omega
          subst this
          exact hh
        · exact ih (by omega) h
    have := this i (Nat.le_refl _) hpar
    simp only [holdsI, Bool.and_eq_true, decide_eq_true_eq] at this
    have h5 := this.2.2.2
    rw [Int.toNat_natCast] at h5
    omega
  rw [e2, List.filter_append, List.filter_append, hA, hC]
  simp
end Go.Vc
namespace Go.Vc
open Go.Proofs
set_option maxRecDepth 100000 in
theorem of_c (l : List Nd) (hl : Fine l) (hb : isB l = true) : PFun Try.prog 93 [encNs l] (.agg [encNs l]) := fun σ => by
  refine Contract.of_runs Try.func93 e93 k93 (by simp [c93]) ?_
  refine Runs.mix 3 ?_
  (refine Runs.of_step Orc.nothing 300 ?_; simp -implicitDefEqProofs only [BB, Int.reduceEq, Int.reduceNe, Int.reduceLT, Int.reduceLE, Int.reduceGT, Int.reduceGE, Nat.reduceEqDiff, Nat.reduceAdd, Nat.reduceMul, Nat.reduceLeDiff, Nat.reduceSub, Nat.reduceLT, Nat.reduceBEq, ↓reduceIte, reduceCtorEq, ← decide_not, okind, vpre, vpure, intBin, intPre, strBin, strPre, popTo, argSlots, fldV, fldAV, subCells, idxVV, idxAAV, idxSV, sliceV, sliceSV, boundV, szIs, storeOp, storeS, setRowV, eff, extV, buildV, splice, eqSV, fitsL, eqCells, eqCell, minmaxV, capV, binBV, nilCheckV, bytesV, V.cells, V.stays, Orc.nothing, c93])
  refine effR_new fun id2 σ1 s1 a2 f2 => ?_
  simp -implicitDefEqProofs only [BB, Int.reduceEq, Int.reduceNe, Int.reduceLT, Int.reduceLE, Int.reduceGT, Int.reduceGE, Nat.reduceEqDiff, Nat.reduceAdd, Nat.reduceMul, Nat.reduceLeDiff, Nat.reduceSub, Nat.reduceLT, Nat.reduceBEq, ↓reduceIte, reduceCtorEq, ← decide_not, okind, vpre, vpure, intBin, intPre, strBin, strPre, popTo, argSlots, fldV, fldAV, subCells, idxVV, idxAAV, idxSV, sliceV, sliceSV, boundV, szIs, storeOp, storeS, setRowV, eff, extV, buildV, splice, eqSV, fitsL, eqCells, eqCell, minmaxV, capV, binBV, nilCheckV, bytesV, V.cells, V.stays, a2]
  refine Runs.pcall rfl rfl rfl (isv_c l hl _) ?_
  (refine Runs.of_step Orc.nothing 300 ?_; simp -implicitDefEqProofs only [BB, Int.reduceEq, Int.reduceNe, Int.reduceLT, Int.reduceLE, Int.reduceGT, Int.reduceGE, Nat.reduceEqDiff, Nat.reduceAdd, Nat.reduceMul, Nat.reduceLeDiff, Nat.reduceSub, Nat.reduceLT, Nat.reduceBEq, ↓reduceIte, reduceCtorEq, ← decide_not, okind, vpre, vpure, intBin, intPre, strBin, strPre, popTo, argSlots, fldV, fldAV, subCells, idxVV, idxAAV, idxSV, sliceV, sliceSV, boundV, szIs, storeOp, storeS, setRowV, eff, extV, buildV, splice, eqSV, fitsL, eqCells, eqCell, minmaxV, capV, binBV, nilCheckV, bytesV, V.cells, V.stays, Orc.nothing, hb, a2, encNs])
  refine RetV.pure (s1.updK f2) rfl
set_option maxRecDepth 100000 in
theorem has9_c (l : List Nd) (a : Int) : PFun Try.prog 94 [encNs l, vI a] (.bool (hasI l a)) := fun σ => by
  refine Contract.of_runs Try.func94 e94 k94 (by simp [c94]) ?_
  refine Runs.mix 6 ?_
  (refine Runs.of_step Orc.nothing 300 ?_; simp -implicitDefEqProofs only [BB, effR_some, effD_some, Int.reduceEq, Int.reduceNe, Int.reduceLT, Int.reduceLE, Int.reduceGT, Int.reduceGE, Nat.reduceEqDiff, Nat.reduceAdd, Nat.reduceMul, Nat.reduceLeDiff, Nat.reduceSub, Nat.reduceLT, Nat.reduceBEq, ↓reduceIte, reduceCtorEq, ← decide_not, okind, vpre, vpure, intBin, intPre, strBin, strPre, popTo, argSlots, fldV, fldAV, subCells, idxVV, idxAAV, idxSV, sliceV, sliceSV, boundV, szIs, storeOp, storeS, setRowV, eff, extV, buildV, splice, eqSV, fitsL, eqCells, eqCell, minmaxV, capV, binBV, nilCheckV, bytesV, V.cells, V.stays, Orc.nothing, c94, lenV_encNs])
  refine And.intro (fun h => ?_) (fun h => ?_)
  · refine RetV.same ?_
    simp [hasI]; omega
  · refine RetV.same ?_
    simp [hasI]; omega
set_option maxRecDepth 100000 in
theorem parent9_c (l : List Nd) (hl : Fine l) (hb : isB l = true) (a : Nat) (ha : a < l.length) : PFun Try.prog 107 [encNs l, vI a] (vI (parR l a)) := fun σ => by
  have hl1 := hl.1
  refine Contract.of_runs Try.func107 e107 k107 (by simp [c107]) ?_
  refine Runs.mix 6 ?_
  (refine Runs.of_step Orc.nothing 300 ?_; simp -implicitDefEqProofs only [BB, effR_some, effD_some, Int.reduceEq, Int.reduceNe, Int.reduceLT, Int.reduceLE, Int.reduceGT, Int.reduceGE, Nat.reduceEqDiff, Nat.reduceAdd, Nat.reduceMul, Nat.reduceLeDiff, Nat.reduceSub, Nat.reduceLT, Nat.reduceBEq, ↓reduceIte, reduceCtorEq, ← decide_not, okind, vpre, vpure, intBin, intPre, strBin, strPre, popTo, argSlots, fldV, fldAV, subCells, idxVV, idxAAV, idxSV, sliceV, sliceSV, boundV, szIs, storeOp, storeS, setRowV, eff, extV, buildV, splice, eqSV, fitsL, eqCells, eqCell, minmaxV, capV, binBV, nilCheckV, bytesV, V.cells, V.stays, Orc.nothing, c107])
  refine ⟨inR_i64 (by omega) (by omega), ?_⟩
  refine Runs.loop (fun m st => ∃ (k : Nat), k ≤ a ∧ m = k ∧ parR l a = parD l a k ∧ st.σ = σ ∧ st.s 0 = encNs l ∧ st.s 1 = vI a ∧ st.s 5 = vI ((k : Int) - 1)) a ?_ ?_
  · exact ⟨a, by omega, rfl, rfl, rfl, rfl, rfl, rfl⟩
  · rintro m ⟨s, σ'⟩ ⟨k, hk, rfl, heq, hσ, h0, h1, h5⟩
    simp only at hσ h0 h1 h5
    subst hσ
    refine Runs.mix 6 ?_
    (refine Runs.of_step Orc.nothing 300 ?_; simp -implicitDefEqProofs only [BB, effR_some, effD_some, Int.reduceEq, Int.reduceNe, Int.reduceLT, Int.reduceLE, Int.reduceGT, Int.reduceGE, Nat.reduceEqDiff, Nat.reduceAdd, Nat.reduceMul, Nat.reduceLeDiff, Nat.reduceSub, Nat.reduceLT, Nat.reduceBEq, ↓reduceIte, reduceCtorEq, ← decide_not, okind, vpre, vpure, intBin, intPre, strBin, strPre, popTo, argSlots, fldV, fldAV, subCells, idxVV, idxAAV, idxSV, sliceV, sliceSV, boundV, szIs, storeOp, storeS, setRowV, eff, extV, buildV, splice, eqSV, fitsL, eqCells, eqCell, minmaxV, capV, binBV, nilCheckV, bytesV, V.cells, V.stays, Orc.nothing, h0, h1, h5])
    refine And.intro (fun h => ?_) (fun h => ?_)
    · obtain ⟨k, rfl⟩ : ∃ j, m = j + 1 := ⟨m - 1, by omega⟩
      have e1 : ((k + 1 : Nat) : Int) - 1 = k := by omega
      have hlt : k < l.length := by omega
      have hsz := szI_bound hb hlt
      have hse := szI_eq hlt
      have hx := idxAV_encNs (σ := σ') hlt
      simp -implicitDefEqProofs only [BB, effR_some, effD_some, Int.reduceEq, Int.reduceNe, Int.reduceLT, Int.reduceLE, Int.reduceGT, Int.reduceGE, Nat.reduceEqDiff, Nat.reduceAdd, Nat.reduceMul, Nat.reduceLeDiff, Nat.reduceSub, Nat.reduceLT, Nat.reduceBEq, ↓reduceIte, reduceCtorEq, ← decide_not, okind, vpre, vpure, intBin, intPre, strBin, strPre, popTo, argSlots, fldV, fldAV, subCells, idxVV, idxAAV, idxSV, sliceV, sliceSV, boundV, szIs, storeOp, storeS, setRowV, eff, extV, buildV, splice, eqSV, fitsL, eqCells, eqCell, minmaxV, capV, binBV, nilCheckV, bytesV, V.cells, V.stays, e1, hx, Nd.cells, h0, h1, h5]
      rw [← hse]
      refine ⟨inR_i64 (by omega) (by omega), And.intro (fun hc => ?_) (fun hc => ?_)⟩
      · refine RetV.same ?_
        rw [heq, parD, if_pos]
        simp only [holdsI, Bool.and_eq_true, decide_eq_true_eq, hasI]
        simp
        omega
      · refine ⟨inR_i64 (by omega) (by omega), _, ?_, k, by omega, rfl, ?_, rfl⟩
        · omega
        · rw [heq, parD, if_neg]
          simp only [holdsI, Bool.and_eq_true, decide_eq_true_eq, hasI]
          simp
          omega
    · have hk0 : m = 0 := by omega
      subst hk0
      refine RetV.same ?_
      rw [heq]; rfl
set_option maxRecDepth 100000 in
theorem kids9_c (l : List Nd) (hl : Fine l) (hb : isB l = true) (a : Int) (ha : a = -1 ∨ hasI l a = true) (σ : Store) :
    Contract Try.prog 73 [encNs l, vI a] σ fun r σ' => SubStore σ σ' ∧ OutV σ σ' 3 1 r ((kidsR l a).map vI) := by
  have hl1 := hl.1
  have hrows : rowsB l 0 l.length = true := by simp only [isB, Bool.and_eq_true] at hb; exact hb.2
  refine Contract.of_runs Try.func73 e73 k73 (by simp [c73]) ?_
  refine Runs.mix 9 ?_
  (refine Runs.of_step Orc.nothing 300 ?_; simp -implicitDefEqProofs only [BB, Int.reduceEq, Int.reduceNe, Int.reduceLT, Int.reduceLE, Int.reduceGT, Int.reduceGE, Nat.reduceEqDiff, Nat.reduceAdd, Nat.reduceMul, Nat.reduceLeDiff, Nat.reduceSub, Nat.reduceLT, Nat.reduceBEq, ↓reduceIte, reduceCtorEq, ← decide_not, okind, vpre, vpure, intBin, intPre, strBin, strPre, popTo, argSlots, fldV, fldAV, subCells, idxVV, idxAAV, idxSV, sliceV, sliceSV, boundV, szIs, storeOp, storeS, setRowV, eff, extV, buildV, splice, eqSV, fitsL, eqCells, eqCell, minmaxV, capV, binBV, nilCheckV, bytesV, V.cells, V.stays, Orc.nothing, c73])
  refine Runs.pcall rfl rfl rfl (of_c l hl hb _) ?_
  (refine Runs.of_step Orc.nothing 300 ?_; simp -implicitDefEqProofs only [BB, Int.reduceEq, Int.reduceNe, Int.reduceLT, Int.reduceLE, Int.reduceGT, Int.reduceGE, Nat.reduceEqDiff, Nat.reduceAdd, Nat.reduceMul, Nat.reduceLeDiff, Nat.reduceSub, Nat.reduceLT, Nat.reduceBEq, ↓reduceIte, reduceCtorEq, ← decide_not, okind, vpre, vpure, intBin, intPre, strBin, strPre, popTo, argSlots, fldV, fldAV, subCells, idxVV, idxAAV, idxSV, sliceV, sliceSV, boundV, szIs, storeOp, storeS, setRowV, eff, extV, buildV, splice, eqSV, fitsL, eqCells, eqCell, minmaxV, capV, binBV, nilCheckV, bytesV, V.cells, V.stays, Orc.nothing, encNs_cells, encNs_stays])
  refine effR_new fun id5 σ1 s1 a5 f5 => ?_
  have hfold : V.sl 20 (l.map encN) = encNs l := rfl
  simp -implicitDefEqProofs only [BB, Int.reduceEq, Int.reduceNe, Int.reduceLT, Int.reduceLE, Int.reduceGT, Int.reduceGE, Nat.reduceEqDiff, Nat.reduceAdd, Nat.reduceMul, Nat.reduceLeDiff, Nat.reduceSub, Nat.reduceLT, Nat.reduceBEq, ↓reduceIte, reduceCtorEq, ← decide_not, okind, vpre, vpure, intBin, intPre, strBin, strPre, popTo, argSlots, fldV, fldAV, subCells, idxVV, idxAAV, idxSV, sliceV, sliceSV, boundV, szIs, storeOp, storeS, setRowV, eff, extV, buildV, splice, eqSV, fitsL, eqCells, eqCell, minmaxV, capV, binBV, nilCheckV, bytesV, V.cells, V.stays, a5, hfold, encNs_cells, encNs_stays, lenV_encNs]
  refine And.intro (fun h => ?gA) (fun h => ?gB)
  case' gA =>
    have hh : hasI l a = true := by rcases ha with rfl | ha; exact absurd rfl h; exact ha
    obtain ⟨p, rfl⟩ : ∃ p : Nat, a = p := ⟨a.toNat, by have := hasI_iff.1 hh; omega⟩
    have hp : p < l.length := by have := hasI_iff.1 hh; omega
    have hx := idxAV_encNs (σ := σ1) hp
    obtain ⟨z1, z2⟩ := szI_bound hb hp
    have hse := szI_eq hp
    have hk := kidsR_in hb hp
    obtain ⟨z3, _⟩ := rowsB_ends (Nat.le_refl _) hrows (Nat.zero_le p) hp
    have hin := rowsB_inner l (l.length + 1) 0 l.length (by omega) (Nat.le_refl _) hrows p (by omega) hp hp
    rw [← hse] at hin
    have hz : (szI l p) = ((szI l p).toNat : Int) := by omega
    refine Runs.pcall rfl rfl rfl (has9_c l _ _) ?_
    (refine Runs.of_step Orc.nothing 300 ?_; simp -implicitDefEqProofs only [BB, Int.reduceEq, Int.reduceNe, Int.reduceLT, Int.reduceLE, Int.reduceGT, Int.reduceGE, Nat.reduceEqDiff, Nat.reduceAdd, Nat.reduceMul, Nat.reduceLeDiff, Nat.reduceSub, Nat.reduceLT, Nat.reduceBEq, ↓reduceIte, reduceCtorEq, ← decide_not, okind, vpre, vpure, intBin, intPre, strBin, strPre, popTo, argSlots, fldV, fldAV, subCells, idxVV, idxAAV, idxSV, sliceV, sliceSV, boundV, szIs, storeOp, storeS, setRowV, eff, extV, buildV, splice, eqSV, fitsL, eqCells, eqCell, minmaxV, capV, binBV, nilCheckV, bytesV, V.cells, V.stays, Orc.nothing, hh, idxAV_encNs hp, Nd.cells, a5])
    rw [← hse]
    refine ⟨inR_i64 (by omega) (by omega), inR_i64 (by omega) (by omega), ?_⟩
    have hbeg : ∃ a0 e : Nat, e ≤ l.length ∧ a0 ≤ e ∧ rowsB l a0 e = true ∧ kidsR l p = kidsW l a0 e ∧ (p : Int) + 1 = a0 ∧ (p : Int) + szI l p = e :=
      ⟨p + 1, p + (szI l p).toNat, by omega, by omega, hin, hk, by omega, by omega⟩
    obtain ⟨a0, e, he, hae, hr, hk, e1, e2⟩ := hbeg
    rw [e1, e2]
  case' gB =>
    have ha1 : a = -1 := by omega
    subst ha1
    have hbeg : ∃ a0 e : Nat, e ≤ l.length ∧ a0 ≤ e ∧ rowsB l a0 e = true ∧ kidsR l (-1) = kidsW l a0 e ∧ (0 : Int) = a0 ∧ (l.length : Int) = e :=
      ⟨0, l.length, by omega, by omega, hrows, kidsR_top hb, by omega, by omega⟩
    obtain ⟨a0, e, he, hae, hr, hk, e1, e2⟩ := hbeg
  case gA | gB =>
    refine Runs.loop (fun m st => ∃ (b : Nat) (out : List Int), a0 ≤ b ∧ b ≤ e ∧ m = e - b ∧ rowsB l b e = true ∧ kidsW l a0 e = out ++ kidsW l b e ∧ out.length ≤ b - a0 ∧ SubStore σ st.σ ∧ OutV σ st.σ 3 1 (st.s 8) (out.map vI) ∧ st.s 0 = encNs l ∧ st.s 6 = vI b ∧ st.s 7 = vI e) (e - a0) ?_ ?_
    · exact ⟨a0, [], by omega, by omega, rfl, hr, rfl, by simp, s1.updK f5, OutV.start, rfl, by first | rfl | exact congrArg vI e1, by first | rfl | exact congrArg vI e2⟩
    · rintro m ⟨s, σ'⟩ ⟨b, out, hab, hbe, rfl, hrb, heq, hlen, hsub, hout, h0, h6, h7⟩
      simp only at hsub hout h0 h6 h7
      refine Runs.mix 9 ?_
      (refine Runs.of_step Orc.nothing 300 ?_; simp -implicitDefEqProofs only [BB, Int.reduceEq, Int.reduceNe, Int.reduceLT, Int.reduceLE, Int.reduceGT, Int.reduceGE, Nat.reduceEqDiff, Nat.reduceAdd, Nat.reduceMul, Nat.reduceLeDiff, Nat.reduceSub, Nat.reduceLT, Nat.reduceBEq, ↓reduceIte, reduceCtorEq, ← decide_not, okind, vpre, vpure, intBin, intPre, strBin, strPre, popTo, argSlots, fldV, fldAV, subCells, idxVV, idxAAV, idxSV, sliceV, sliceSV, boundV, szIs, storeOp, storeS, setRowV, eff, extV, buildV, splice, eqSV, fitsL, eqCells, eqCell, minmaxV, capV, binBV, nilCheckV, bytesV, V.cells, V.stays, Orc.nothing, h0, h6, h7])
      refine And.intro (fun h => ?_) (fun h => ?_)
      · have hlt : b < e := by omega
        have hbl : b < l.length := by omega
        have hse2 := szI_eq hbl
        obtain ⟨y1, y2⟩ := rowsB_ends he hrb (Nat.le_refl b) hlt
        obtain ⟨hr2, _⟩ := rowsB_next he hrb hlt
        have hc := kidsW_cons hlt hbl (by omega)
        refine effD_new fun id1 σ2 s2 a1 f1 => ?_
        obtain ⟨idA, hd, hdel⟩ := hout.dst s2
        have hb2 : (out.length + 1) * 9 ≤ 140737488355328 := by omega
        simp -implicitDefEqProofs only [BB, Int.reduceEq, Int.reduceNe, Int.reduceLT, Int.reduceLE, Int.reduceGT, Int.reduceGE, Nat.reduceEqDiff, Nat.reduceAdd, Nat.reduceMul, Nat.reduceLeDiff, Nat.reduceSub, Nat.reduceLT, Nat.reduceBEq, ↓reduceIte, reduceCtorEq, ← decide_not, okind, vpre, vpure, intBin, intPre, strBin, strPre, popTo, argSlots, fldV, fldAV, subCells, idxVV, idxAAV, idxSV, sliceV, sliceSV, boundV, szIs, storeOp, storeS, setRowV, eff, extV, buildV, splice, eqSV, fitsL, eqCells, eqCell, minmaxV, capV, binBV, nilCheckV, bytesV, V.cells, V.stays, hd, srcOne a1, List.length_map, hb2, h0, h6, h7]
        refine effD_put fun id2 σ3 s3 a2 f2 => ?_
        have hs3 := (hdel σ (SubStore.refl σ) σ2 (hsub.trans s2)).trans s3
        have hx := idxAV_encNs (σ := σ3) hbl
        simp -implicitDefEqProofs only [BB, Int.reduceEq, Int.reduceNe, Int.reduceLT, Int.reduceLE, Int.reduceGT, Int.reduceGE, Nat.reduceEqDiff, Nat.reduceAdd, Nat.reduceMul, Nat.reduceLeDiff, Nat.reduceSub, Nat.reduceLT, Nat.reduceBEq, ↓reduceIte, reduceCtorEq, ← decide_not, okind, vpre, vpure, intBin, intPre, strBin, strPre, popTo, argSlots, fldV, fldAV, subCells, idxVV, idxAAV, idxSV, sliceV, sliceSV, boundV, szIs, storeOp, storeS, setRowV, eff, extV, buildV, splice, eqSV, fitsL, eqCells, eqCell, minmaxV, capV, binBV, nilCheckV, bytesV, V.cells, V.stays, hx, Nd.cells, h0, h6, h7]
        rw [← hse2]
        refine ⟨inR_i64 (by omega) (by omega), _, ?_, b + (szI l b).toNat, out ++ [(b : Int)], by omega, by omega, rfl, hr2, ?_, by simp; omega, hs3, ?_, ?_⟩
        · omega
        · rw [heq, hc, hse2]; simp
        · exact OutV.new (by simp) (by rw [a2]; simp) ((hsub.trans s2).none f2)
        · refine congrArg (V.int .i64) ?_
          omega
      · have hbe2 : b = e := by omega
        subst hbe2
        rw [kidsW_nil (Nat.le_refl _), List.append_nil] at heq
        refine ⟨_, _, SubStore.refl _, Wk.refl (SubStore.refl _) _, hsub, ?_⟩
        rw [hk, heq]
        exact hout
theorem kids9_p (l : List Nd) (hl : Fine l) (hb : isB l = true) (a : Int) (ha : a = -1 ∨ hasI l a = true) : PFun Try.prog 73 [encNs l, vI a] (encI (kidsR l a)) := fun σ =>
  (kids9_c l hl hb a ha σ).weak fun _ _ h => h.2.retv h.1 rfl
end Go.Vc
