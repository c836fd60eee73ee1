/- Part 4 of the library of this proof. -/
import Derived.Test.YtleahcdojjeinaaDoorW3
import Derived.Test.YtleahcdojjeinaaDoorProg
import Derived.KernelRfl
set_option linter.all false
namespace Go.Vc
open Go.Proofs
def c3 : VFn := ⟨48,.seq (.reg .false [⟨.some 2,.mov (.c (.bool .false)),.none⟩]) (.seq (.seq (.reg .false [⟨.some 9,.mov (.t 0),.none⟩,⟨.some 10,.len .true (.t 9),.none⟩,⟨.some 11,.bin .gtr (.t 10) (.c (.int .i64 3000)),.none⟩]) (.cond (.t 11) (.seq (.reg .false [⟨.some 12,.call (.c (.fn 11 [])) [],.none⟩,⟨.some 2,.mov (.t 12),.none⟩]) .ret) .skip)) (.seq (.reg .false [⟨.some 14,.mov (.t 0),.none⟩,⟨.some 15,.call (.c (.fn 12 [])) [.t 14],.none⟩,⟨.some 13,.mov (.t 15),.none⟩,⟨.some 16,.ext 0 (.t 13),.none⟩,⟨.some 17,.ext 1 (.t 13),.none⟩,⟨.some 18,.ext 2 (.t 13),.none⟩,⟨.some 3,.mov (.t 16),.none⟩,⟨.some 4,.mov (.t 17),.none⟩,⟨.some 5,.mov (.t 18),.none⟩]) (.seq (.reg .false [⟨.some 20,.mov (.t 0),.none⟩,⟨.some 21,.call (.c (.fn 13 [])) [.t 20],.none⟩,⟨.some 19,.mov (.t 21),.none⟩,⟨.some 22,.ext 0 (.t 19),.none⟩,⟨.some 23,.ext 1 (.t 19),.none⟩,⟨.some 24,.ext 2 (.t 19),.none⟩,⟨.some 6,.mov (.t 22),.none⟩,⟨.some 7,.mov (.t 23),.none⟩,⟨.some 8,.mov (.t 24),.none⟩]) (.seq (.reg .false [⟨.some 25,.mov (.t 3),.none⟩,⟨.some 26,.mov (.t 6),.none⟩,⟨.some 27,.call (.c (.fn 14 [])) [.t 25,.t 26],.none⟩,⟨.some 28,.mov (.t 27),.none⟩,⟨.some 29,.mov (.t 4),.some ((.t 28),.true)⟩,⟨.some 30,.mov (.t 7),.some ((.t 28),.true)⟩,⟨.some 31,.bin .eql (.t 29) (.t 30),.some ((.t 28),.true)⟩,⟨.some 32,.pick (.t 28) (.t 31) (.c (.bool .false)),.none⟩,⟨.some 33,.mov (.t 32),.none⟩,⟨.some 34,.mov (.t 5),.some ((.t 33),.true)⟩,⟨.some 35,.mov (.t 8),.some ((.t 33),.true)⟩,⟨.some 36,.bin .eql (.t 34) (.t 35),.some ((.t 33),.true)⟩,⟨.some 37,.pick (.t 33) (.t 36) (.c (.bool .false)),.none⟩,⟨.some 38,.mov (.t 37),.none⟩,⟨.some 39,.mov (.t 0),.some ((.t 38),.true)⟩,⟨.some 40,.call (.c (.fn 15 [])) [.t 39],.some ((.t 38),.true)⟩,⟨.some 41,.mov (.t 8),.some ((.t 38),.true)⟩,⟨.some 42,.bin .eql (.t 41) (.c (.int .i64 0)),.some ((.t 38),.true)⟩,⟨.some 43,.binB .false (.t 40) (.t 42),.some ((.t 38),.true)⟩,⟨.some 44,.pick (.t 38) (.t 43) (.c (.bool .false)),.none⟩,⟨.some 45,.mov (.t 44),.none⟩,⟨.some 46,.call (.c (.fn 11 [])) [],.some ((.t 45),.true)⟩,⟨.some 47,.pick (.t 45) (.t 46) (.c (.bool .false)),.none⟩,⟨.some 2,.mov (.t 47),.none⟩]) .ret)))),[.tmp (.t 2)]⟩
theorem e3 : cfn Tryd.prog Tryd.f3 = some c3 := by kernel_rfl
theorem k3 : callable Tryd.prog 3 = true := by kernel_rfl
def c4 : VFn := ⟨88,.seq (.reg .false [⟨.some 2,.mov (.c (.bool .false)),.none⟩]) (.seq (.seq (.reg .false [⟨.some 13,.mov (.t 0),.none⟩,⟨.some 14,.len .true (.t 13),.none⟩,⟨.some 15,.bin .gtr (.t 14) (.c (.int .i64 3000)),.none⟩]) (.cond (.t 15) (.seq (.reg .false [⟨.some 16,.call (.c (.fn 11 [])) [],.none⟩,⟨.some 2,.mov (.t 16),.none⟩]) .ret) .skip)) (.seq (.reg .false [⟨.some 18,.mov (.t 0),.none⟩,⟨.some 19,.call (.c (.fn 12 [])) [.t 18],.none⟩,⟨.some 17,.mov (.t 19),.none⟩,⟨.some 20,.ext 0 (.t 17),.none⟩,⟨.some 21,.ext 1 (.t 17),.none⟩,⟨.some 22,.ext 2 (.t 17),.none⟩,⟨.some 3,.mov (.t 20),.none⟩,⟨.some 4,.mov (.t 21),.none⟩,⟨.some 5,.mov (.t 22),.none⟩]) (.seq (.seq (.reg .false [⟨.some 23,.mov (.t 5),.none⟩,⟨.some 24,.bin .neq (.t 23) (.c (.int .i64 0)),.none⟩]) (.cond (.t 24) (.seq (.seq (.reg .false [⟨.some 25,.mov (.t 3),.none⟩,⟨.some 26,.len .false (.t 25),.none⟩,⟨.some 27,.bin .neq (.t 26) (.c (.int .i64 0)),.none⟩,⟨.some 28,.mov (.t 27),.none⟩,⟨.some 29,.mov (.t 5),.some ((.t 28),.false)⟩,⟨.some 30,.bin .neq (.t 29) (.c (.int .i64 1)),.some ((.t 28),.false)⟩,⟨.some 31,.pick (.t 28) (.c (.bool .true)) (.t 30),.none⟩,⟨.some 32,.mov (.t 31),.none⟩,⟨.some 33,.mov (.t 4),.some ((.t 32),.false)⟩,⟨.some 34,.bin .lss (.t 33) (.c (.int .i64 0)),.some ((.t 32),.false)⟩,⟨.some 35,.pick (.t 32) (.c (.bool .true)) (.t 34),.none⟩,⟨.some 36,.mov (.t 35),.none⟩,⟨.some 37,.mov (.t 4),.some ((.t 36),.false)⟩,⟨.some 38,.mov (.t 0),.some ((.t 36),.false)⟩,⟨.some 39,.len .true (.t 38),.some ((.t 36),.false)⟩,⟨.some 40,.bin .gtr (.t 37) (.t 39),.some ((.t 36),.false)⟩,⟨.some 41,.pick (.t 36) (.c (.bool .true)) (.t 40),.none⟩]) (.cond (.t 41) (.seq (.reg .false [⟨.some 2,.mov (.c (.bool .false)),.none⟩]) .ret) .skip)) (.seq (.seq (.reg .false [⟨.some 43,.mov (.t 0),.none⟩,⟨.some 44,.call (.c (.fn 16 [])) [.t 43],.none⟩,⟨.some 42,.mov (.t 44),.none⟩,⟨.some 45,.ext 0 (.t 42),.none⟩,⟨.some 46,.ext 1 (.t 42),.none⟩,⟨.some 47,.ext 2 (.t 42),.none⟩,⟨.some 6,.mov (.t 45),.none⟩,⟨.some 7,.mov (.t 46),.none⟩,⟨.some 8,.mov (.t 47),.none⟩]) (.seq (.reg .false [⟨.some 48,.mov (.t 8),.none⟩,⟨.some 49,.bin .neq (.t 48) (.c (.int .i64 0)),.none⟩]) (.cond (.t 49) (.seq (.reg .false [⟨.some 50,.call (.c (.fn 11 [])) [],.none⟩,⟨.some 2,.mov (.t 50),.none⟩]) .ret) .skip))) (.seq (.reg .false [⟨.some 52,.mov (.t 0),.none⟩,⟨.some 53,.mov (.t 4),.none⟩,⟨.some 54,.sliceS (.t 52) .none (.some (.t 53)),.none⟩,⟨.some 55,.call (.c (.fn 12 [])) [.t 54],.none⟩,⟨.some 51,.mov (.t 55),.none⟩,⟨.some 56,.ext 0 (.t 51),.none⟩,⟨.some 57,.ext 1 (.t 51),.none⟩,⟨.some 58,.ext 2 (.t 51),.none⟩,⟨.some 9,.mov (.t 56),.none⟩,⟨.some 10,.mov (.t 57),.none⟩,⟨.some 11,.mov (.t 58),.none⟩]) (.seq (.reg .false [⟨.some 59,.mov (.t 11),.none⟩,⟨.some 60,.bin .eql (.t 59) (.c (.int .i64 0)),.none⟩,⟨.some 61,.mov (.t 60),.none⟩,⟨.some 62,.mov (.t 10),.some ((.t 61),.false)⟩,⟨.some 63,.mov (.t 4),.some ((.t 61),.false)⟩,⟨.some 64,.bin .eql (.t 62) (.t 63),.some ((.t 61),.false)⟩,⟨.some 65,.pick (.t 61) (.c (.bool .true)) (.t 64),.none⟩,⟨.some 66,.mov (.t 65),.none⟩,⟨.some 67,.call (.c (.fn 11 [])) [],.some ((.t 66),.true)⟩,⟨.some 68,.pick (.t 66) (.t 67) (.c (.bool .false)),.none⟩,⟨.some 2,.mov (.t 68),.none⟩]) .ret)))) .skip)) (.seq (.seq (.reg .false [⟨.some 12,.mov (.c (.int .i64 0)),.none⟩]) (.block 0 (.loop (.seq (.seq (.reg .false [⟨.some 69,.mov (.t 12),.none⟩,⟨.some 70,.mov (.t 3),.none⟩,⟨.some 71,.len .false (.t 70),.none⟩,⟨.some 72,.bin .lss (.t 69) (.t 71),.none⟩]) (.cond (.t 72) .skip (.exit 0))) (.seq (.block 1 (.seq (.reg .false [⟨.some 75,.mov (.t 3),.none⟩,⟨.some 76,.mov (.t 12),.none⟩,⟨.some 77,.idxA 20 (.t 75) (.t 76),.none⟩,⟨.some 78,.load .true 20 (.t 77),.none⟩,⟨.some 79,.call (.c (.fn 17 [])) [.t 78],.none⟩,⟨.some 80,.not (.t 79),.none⟩]) (.cond (.t 80) (.seq (.reg .false [⟨.some 2,.mov (.c (.bool .false)),.none⟩]) .ret) .skip))) (.reg .false [⟨.some 73,.mov (.t 12),.none⟩,⟨.some 74,.bin .add (.t 73) (.c (.int .i64 1)),.none⟩,⟨.some 12,.mov (.t 74),.none⟩])))))) (.seq (.reg .false [⟨.some 81,.mov (.t 3),.none⟩,⟨.some 82,.mov (.t 3),.none⟩,⟨.some 83,.len .false (.t 82),.none⟩,⟨.some 84,.call (.c (.fn 18 [])) [.t 81,.c (.int .i64 0),.t 83],.none⟩,⟨.some 85,.mov (.t 84),.none⟩,⟨.some 86,.call (.c (.fn 11 [])) [],.some ((.t 85),.true)⟩,⟨.some 87,.pick (.t 85) (.t 86) (.c (.bool .false)),.none⟩,⟨.some 2,.mov (.t 87),.none⟩]) .ret))))),[.tmp (.t 2)]⟩
theorem e4 : cfn Tryd.prog Tryd.f4 = some c4 := by kernel_rfl
theorem k4 : callable Tryd.prog 4 = true := by kernel_rfl
def c5 : VFn := ⟨44,.seq (.reg .false [⟨.some 4,.mov (.c (.bool .false)),.none⟩]) (.seq (.seq (.reg .false [⟨.some 6,.mov (.t 0),.none⟩,⟨.some 7,.call (.c (.fn 19 [])) [.t 6],.none⟩,⟨.some 8,.mov (.t 7),.none⟩,⟨.some 9,.mov (.t 1),.some ((.t 8),.false)⟩,⟨.some 10,.call (.c (.fn 19 [])) [.t 9],.some ((.t 8),.false)⟩,⟨.some 11,.pick (.t 8) (.c (.bool .true)) (.t 10),.none⟩]) (.cond (.t 11) (.seq (.reg .false [⟨.some 12,.call (.c (.fn 11 [])) [],.none⟩,⟨.some 4,.mov (.t 12),.none⟩]) .ret) .skip)) (.seq (.reg .false [⟨.some 13,.mov (.t 0),.none⟩,⟨.some 14,.call (.c (.fn 20 [])) [.t 13],.none⟩,⟨.some 5,.mov (.t 14),.none⟩]) (.seq (.reg .false [⟨.some 15,.mov (.t 5),.none⟩,⟨.some 16,.mov (.t 1),.none⟩,⟨.some 17,.call (.c (.fn 21 [])) [.t 15,.t 16],.none⟩,⟨.some 18,.mov (.t 0),.none⟩,⟨.some 19,.mov (.t 1),.none⟩,⟨.some 20,.call (.c (.fn 14 [])) [.t 18,.t 19],.none⟩,⟨.some 21,.binB .false (.t 17) (.t 20),.none⟩,⟨.some 22,.mov (.t 21),.none⟩,⟨.some 23,.mov (.t 1),.some ((.t 22),.true)⟩,⟨.some 24,.mov (.t 5),.some ((.t 22),.true)⟩,⟨.some 25,.call (.c (.fn 21 [])) [.t 23,.t 24],.some ((.t 22),.true)⟩,⟨.some 26,.mov (.t 1),.some ((.t 22),.true)⟩,⟨.some 27,.mov (.t 0),.some ((.t 22),.true)⟩,⟨.some 28,.call (.c (.fn 14 [])) [.t 26,.t 27],.some ((.t 22),.true)⟩,⟨.some 29,.binB .false (.t 25) (.t 28),.some ((.t 22),.true)⟩,⟨.some 30,.pick (.t 22) (.t 29) (.c (.bool .false)),.none⟩,⟨.some 31,.mov (.t 30),.none⟩,⟨.some 32,.mov (.t 5),.some ((.t 31),.true)⟩,⟨.some 33,.mov (.t 0),.some ((.t 31),.true)⟩,⟨.some 34,.call (.c (.fn 21 [])) [.t 32,.t 33],.some ((.t 31),.true)⟩,⟨.some 35,.pick (.t 31) (.t 34) (.c (.bool .false)),.none⟩,⟨.some 36,.mov (.t 35),.none⟩,⟨.some 37,.mov (.t 5),.some ((.t 36),.true)⟩,⟨.some 38,.mov (.t 0),.some ((.t 36),.true)⟩,⟨.some 39,.call (.c (.fn 14 [])) [.t 37,.t 38],.some ((.t 36),.true)⟩,⟨.some 40,.pick (.t 36) (.t 39) (.c (.bool .false)),.none⟩,⟨.some 41,.mov (.t 40),.none⟩,⟨.some 42,.call (.c (.fn 11 [])) [],.some ((.t 41),.true)⟩,⟨.some 43,.pick (.t 41) (.t 42) (.c (.bool .false)),.none⟩,⟨.some 4,.mov (.t 43),.none⟩]) .ret))),[.tmp (.t 4)]⟩
theorem e5 : cfn Tryd.prog Tryd.f5 = some c5 := by kernel_rfl
theorem k5 : callable Tryd.prog 5 = true := by kernel_rfl
def c6 : VFn := ⟨95,.seq (.reg .false [⟨.some 4,.mov (.c (.bool .false)),.none⟩]) (.seq (.seq (.reg .false [⟨.some 18,.mov (.t 0),.none⟩,⟨.some 19,.len .true (.t 18),.none⟩,⟨.some 20,.bin .gtr (.t 19) (.c (.int .i64 2000)),.none⟩,⟨.some 21,.mov (.t 20),.none⟩,⟨.some 22,.mov (.t 1),.some ((.t 21),.false)⟩,⟨.some 23,.len .true (.t 22),.some ((.t 21),.false)⟩,⟨.some 24,.bin .gtr (.t 23) (.c (.int .i64 2000)),.some ((.t 21),.false)⟩,⟨.some 25,.pick (.t 21) (.c (.bool .true)) (.t 24),.none⟩]) (.cond (.t 25) (.seq (.reg .false [⟨.some 26,.call (.c (.fn 11 [])) [],.none⟩,⟨.some 4,.mov (.t 26),.none⟩]) .ret) .skip)) (.seq (.reg .false [⟨.some 28,.mov (.t 0),.none⟩,⟨.some 29,.call (.c (.fn 12 [])) [.t 28],.none⟩,⟨.some 27,.mov (.t 29),.none⟩,⟨.some 30,.ext 0 (.t 27),.none⟩,⟨.some 31,.ext 1 (.t 27),.none⟩,⟨.some 32,.ext 2 (.t 27),.none⟩,⟨.some 5,.mov (.t 30),.none⟩,⟨.some 6,.mov (.t 31),.none⟩,⟨.some 7,.mov (.t 32),.none⟩]) (.seq (.reg .false [⟨.some 34,.mov (.t 1),.none⟩,⟨.some 35,.call (.c (.fn 12 [])) [.t 34],.none⟩,⟨.some 33,.mov (.t 35),.none⟩,⟨.some 36,.ext 0 (.t 33),.none⟩,⟨.some 37,.ext 1 (.t 33),.none⟩,⟨.some 38,.ext 2 (.t 33),.none⟩,⟨.some 8,.mov (.t 36),.none⟩,⟨.some 9,.mov (.t 37),.none⟩,⟨.some 10,.mov (.t 38),.none⟩]) (.seq (.seq (.reg .false [⟨.some 39,.mov (.t 7),.none⟩,⟨.some 40,.bin .neq (.t 39) (.c (.int .i64 0)),.none⟩]) (.cond (.t 40) (.seq (.reg .false [⟨.some 41,.call (.c (.fn 11 [])) [],.none⟩,⟨.some 4,.mov (.t 41),.none⟩]) .ret) .skip)) (.seq (.reg .false [⟨.some 43,.mov (.t 0),.none⟩,⟨.some 44,.bin .add (.t 43) (.c (.str [10,93])),.none⟩,⟨.some 45,.call (.c (.fn 12 [])) [.t 44],.none⟩,⟨.some 42,.mov (.t 45),.none⟩,⟨.some 46,.ext 0 (.t 42),.none⟩,⟨.some 47,.ext 1 (.t 42),.none⟩,⟨.some 48,.ext 2 (.t 42),.none⟩,⟨.some 11,.mov (.t 46),.none⟩,⟨.some 12,.mov (.t 47),.none⟩,⟨.some 13,.mov (.t 48),.none⟩]) (.seq (.seq (.reg .false [⟨.some 49,.mov (.t 13),.none⟩,⟨.some 50,.bin .neq (.t 49) (.c (.int .i64 1)),.none⟩,⟨.some 51,.mov (.t 50),.none⟩,⟨.some 52,.mov (.t 12),.some ((.t 51),.false)⟩,⟨.some 53,.mov (.t 0),.some ((.t 51),.false)⟩,⟨.some 54,.len .true (.t 53),.some ((.t 51),.false)⟩,⟨.some 55,.bin .add (.t 54) (.c (.int .i64 1)),.some ((.t 51),.false)⟩,⟨.some 56,.bin .neq (.t 52) (.t 55),.some ((.t 51),.false)⟩,⟨.some 57,.pick (.t 51) (.c (.bool .true)) (.t 56),.none⟩]) (.cond (.t 57) (.seq (.reg .false [⟨.some 4,.mov (.c (.bool .false)),.none⟩]) .ret) .skip)) (.seq (.reg .false [⟨.some 59,.mov (.t 0),.none⟩,⟨.some 60,.bin .add (.t 59) (.c (.str [10])),.none⟩,⟨.some 61,.mov (.t 1),.none⟩,⟨.some 62,.bin .add (.t 60) (.t 61),.none⟩,⟨.some 63,.call (.c (.fn 12 [])) [.t 62],.none⟩,⟨.some 58,.mov (.t 63),.none⟩,⟨.some 64,.ext 0 (.t 58),.none⟩,⟨.some 65,.ext 1 (.t 58),.none⟩,⟨.some 66,.ext 2 (.t 58),.none⟩,⟨.some 14,.mov (.t 64),.none⟩,⟨.some 15,.mov (.t 65),.none⟩,⟨.some 16,.mov (.t 66),.none⟩]) (.seq (.seq (.reg .false [⟨.some 67,.mov (.t 10),.none⟩,⟨.some 68,.bin .neq (.t 67) (.c (.int .i64 0)),.none⟩]) (.cond (.t 68) (.seq (.reg .false [⟨.some 69,.mov (.t 14),.none⟩,⟨.some 70,.len .false (.t 69),.none⟩,⟨.some 71,.bin .eql (.t 70) (.c (.int .i64 0)),.none⟩,⟨.some 72,.mov (.t 71),.none⟩,⟨.some 73,.mov (.t 16),.some ((.t 72),.true)⟩,⟨.some 74,.bin .eql (.t 73) (.c (.int .i64 1)),.some ((.t 72),.true)⟩,⟨.some 75,.pick (.t 72) (.t 74) (.c (.bool .false)),.none⟩,⟨.some 76,.mov (.t 75),.none⟩,⟨.some 77,.call (.c (.fn 11 [])) [],.some ((.t 76),.true)⟩,⟨.some 78,.pick (.t 76) (.t 77) (.c (.bool .false)),.none⟩,⟨.some 4,.mov (.t 78),.none⟩]) .ret) .skip)) (.seq (.reg .false [⟨.some 79,.bslice 37 20 [],.none⟩,⟨.some 80,.mov (.t 5),.none⟩,⟨.some 81,.append 37 20 176 (.t 79) (.t 80),.none⟩,⟨.some 17,.mov (.t 81),.none⟩]) (.seq (.reg .false [⟨.some 82,.mov (.t 17),.none⟩,⟨.some 83,.mov (.t 8),.none⟩,⟨.some 84,.append 37 20 176 (.t 82) (.t 83),.none⟩,⟨.some 17,.mov (.t 84),.none⟩]) (.seq (.reg .false [⟨.some 85,.mov (.t 16),.none⟩,⟨.some 86,.bin .eql (.t 85) (.c (.int .i64 0)),.none⟩,⟨.some 87,.mov (.t 86),.none⟩,⟨.some 88,.mov (.t 14),.some ((.t 87),.true)⟩,⟨.some 89,.mov (.t 17),.some ((.t 87),.true)⟩,⟨.some 90,.call (.c (.fn 21 [])) [.t 88,.t 89],.some ((.t 87),.true)⟩,⟨.some 91,.pick (.t 87) (.t 90) (.c (.bool .false)),.none⟩,⟨.some 92,.mov (.t 91),.none⟩,⟨.some 93,.call (.c (.fn 11 [])) [],.some ((.t 92),.true)⟩,⟨.some 94,.pick (.t 92) (.t 93) (.c (.bool .false)),.none⟩,⟨.some 4,.mov (.t 94),.none⟩]) .ret))))))))))),[.tmp (.t 4)]⟩
theorem e6 : cfn Tryd.prog Tryd.f6 = some c6 := by kernel_rfl
def c7 : VFn := ⟨71,.seq (.reg .false [⟨.some 2,.mov (.c (.bool .false)),.none⟩]) (.seq (.seq (.reg .false [⟨.some 9,.mov (.t 0),.none⟩,⟨.some 10,.len .true (.t 9),.none⟩,⟨.some 11,.bin .gtr (.t 10) (.c (.int .i64 3000)),.none⟩]) (.cond (.t 11) (.seq (.reg .false [⟨.some 12,.call (.c (.fn 22 [])) [],.none⟩,⟨.some 2,.mov (.t 12),.none⟩]) .ret) .skip)) (.seq (.reg .false [⟨.some 14,.mov (.t 0),.none⟩,⟨.some 15,.call (.c (.fn 12 [])) [.t 14],.none⟩,⟨.some 13,.mov (.t 15),.none⟩,⟨.some 16,.ext 0 (.t 13),.none⟩,⟨.some 17,.ext 1 (.t 13),.none⟩,⟨.some 18,.ext 2 (.t 13),.none⟩,⟨.some 3,.mov (.t 16),.none⟩,⟨.some 4,.mov (.t 17),.none⟩,⟨.some 5,.mov (.t 18),.none⟩]) (.seq (.seq (.reg .false [⟨.some 19,.mov (.t 5),.none⟩,⟨.some 20,.bin .neq (.t 19) (.c (.int .i64 0)),.none⟩]) (.cond (.t 20) (.seq (.reg .false [⟨.some 21,.call (.c (.fn 22 [])) [],.none⟩,⟨.some 2,.mov (.t 21),.none⟩]) .ret) .skip)) (.seq (.reg .false [⟨.some 23,.mov (.t 3),.none⟩,⟨.some 24,.call (.c (.fn 23 [])) [.t 23],.none⟩,⟨.some 22,.mov (.t 24),.none⟩,⟨.some 25,.ext 0 (.t 22),.none⟩,⟨.some 26,.ext 1 (.t 22),.none⟩,⟨.some 6,.alloc 43 4 (.agg [.int .i64 0,.int .i64 0,.int .i64 0,.int .i64 0]),.none⟩,⟨.none,.store 4 (.t 6) (.t 25),.none⟩,⟨.some 7,.mov (.t 26),.none⟩]) (.seq (.seq (.reg .false [⟨.some 27,.mov (.t 3),.none⟩,⟨.some 28,.call (.c (.fn 24 [])) [.t 27],.none⟩,⟨.some 29,.not (.t 28),.none⟩,⟨.some 30,.mov (.t 29),.none⟩,⟨.some 31,.mov (.t 7),.some ((.t 30),.false)⟩,⟨.some 32,.bin .neq (.t 31) (.c (.int .i64 0)),.some ((.t 30),.false)⟩,⟨.some 33,.pick (.t 30) (.c (.bool .true)) (.t 32),.none⟩,⟨.some 34,.mov (.t 33),.none⟩,⟨.some 35,.fldA .false 2 1 (.t 6),.some ((.t 34),.false)⟩,⟨.some 36,.load .false 1 (.t 35),.some ((.t 34),.false)⟩,⟨.some 37,.mov (.t 3),.some ((.t 34),.false)⟩,⟨.some 38,.len .false (.t 37),.some ((.t 34),.false)⟩,⟨.some 39,.bin .neq (.t 36) (.t 38),.some ((.t 34),.false)⟩,⟨.some 40,.pick (.t 34) (.c (.bool .true)) (.t 39),.none⟩,⟨.some 41,.mov (.t 40),.none⟩,⟨.some 42,.mov (.t 3),.some ((.t 41),.false)⟩,⟨.some 43,.call (.c (.fn 25 [])) [.t 42],.some ((.t 41),.false)⟩,⟨.some 44,.bin .eql (.t 43) (.c (.int .i64 4)),.some ((.t 41),.false)⟩,⟨.some 45,.pick (.t 41) (.c (.bool .true)) (.t 44),.none⟩]) (.cond (.t 45) (.seq (.reg .false [⟨.some 2,.mov (.c (.bool .false)),.none⟩]) .ret) .skip)) (.seq (.seq (.reg .false [⟨.some 8,.mov (.c (.int .i64 0)),.none⟩]) (.block 0 (.loop (.seq (.seq (.reg .false [⟨.some 46,.mov (.t 8),.none⟩,⟨.some 47,.mov (.t 3),.none⟩,⟨.some 48,.len .false (.t 47),.none⟩,⟨.some 49,.bin .lss (.t 46) (.t 48),.none⟩]) (.cond (.t 49) .skip (.exit 0))) (.seq (.block 1 (.seq (.reg .false [⟨.some 58,.mov (.t 3),.none⟩,⟨.some 59,.mov (.t 8),.none⟩,⟨.some 60,.slice 20 (.t 58) .none (.some (.t 59)) .none,.none⟩,⟨.some 61,.call (.c (.fn 24 [])) [.t 60],.none⟩,⟨.some 62,.not (.t 61),.none⟩,⟨.some 63,.mov (.t 62),.none⟩,⟨.some 64,.mov (.t 3),.some ((.t 63),.false)⟩,⟨.some 65,.mov (.t 8),.some ((.t 63),.false)⟩,⟨.some 66,.slice 20 (.t 64) (.some (.t 65)) .none .none,.some ((.t 63),.false)⟩,⟨.some 67,.call (.c (.fn 24 [])) [.t 66],.some ((.t 63),.false)⟩,⟨.some 68,.not (.t 67),.some ((.t 63),.false)⟩,⟨.some 69,.pick (.t 63) (.c (.bool .true)) (.t 68),.none⟩]) (.cond (.t 69) (.seq (.reg .false [⟨.some 2,.mov (.c (.bool .false)),.none⟩]) .ret) .skip))) (.reg .false [⟨.some 50,.mov (.t 8),.none⟩,⟨.some 51,.mov (.t 3),.none⟩,⟨.some 52,.mov (.t 8),.none⟩,⟨.some 53,.idxA 20 (.t 51) (.t 52),.none⟩,⟨.some 54,.fldA .false 1 1 (.t 53),.none⟩,⟨.some 55,.load .false 1 (.t 54),.none⟩,⟨.some 56,.minmax .true (.t 55) (.c (.int .i64 1)),.none⟩,⟨.some 57,.bin .add (.t 50) (.t 56),.none⟩,⟨.some 8,.mov (.t 57),.none⟩])))))) (.seq (.reg .false [⟨.some 70,.call (.c (.fn 22 [])) [],.none⟩,⟨.some 2,.mov (.t 70),.none⟩]) .ret))))))),[.tmp (.t 2)]⟩
theorem e7 : cfn Tryd.prog Tryd.f7 = some c7 := by kernel_rfl
def c8 : VFn := ⟨39,.seq (.reg .false [⟨.some 2,.mov (.c (.bool .false)),.none⟩]) (.seq (.seq (.reg .false [⟨.some 8,.mov (.t 0),.none⟩,⟨.some 9,.call (.c (.fn 26 [])) [.t 8],.none⟩]) (.cond (.t 9) (.seq (.reg .false [⟨.some 10,.call (.c (.fn 27 [])) [],.none⟩,⟨.some 2,.mov (.t 10),.none⟩]) .ret) .skip)) (.seq (.reg .false [⟨.some 11,.mov (.t 0),.none⟩,⟨.some 12,.call (.c (.fn 20 [])) [.t 11],.none⟩,⟨.some 3,.mov (.t 12),.none⟩]) (.seq (.reg .false [⟨.some 14,.mov (.t 3),.none⟩,⟨.some 15,.call (.c (.fn 28 [])) [.t 14],.none⟩,⟨.some 13,.mov (.t 15),.none⟩,⟨.some 16,.ext 0 (.t 13),.none⟩,⟨.some 17,.ext 1 (.t 13),.none⟩,⟨.some 4,.mov (.t 16),.none⟩,⟨.some 5,.mov (.t 17),.none⟩]) (.seq (.reg .false [⟨.some 19,.mov (.t 0),.none⟩,⟨.some 20,.call (.c (.fn 29 [])) [.t 19],.none⟩,⟨.some 18,.mov (.t 20),.none⟩,⟨.some 21,.ext 0 (.t 18),.none⟩,⟨.some 22,.ext 1 (.t 18),.none⟩,⟨.some 6,.mov (.t 21),.none⟩,⟨.some 7,.mov (.t 22),.none⟩]) (.seq (.reg .false [⟨.some 23,.mov (.t 4),.none⟩,⟨.some 24,.mov (.t 6),.none⟩,⟨.some 25,.bin .eql (.t 23) (.t 24),.none⟩,⟨.some 26,.mov (.t 25),.none⟩,⟨.some 27,.mov (.t 5),.some ((.t 26),.true)⟩,⟨.some 28,.mov (.t 7),.some ((.t 26),.true)⟩,⟨.some 29,.bin .eql (.t 27) (.t 28),.some ((.t 26),.true)⟩,⟨.some 30,.pick (.t 26) (.t 29) (.c (.bool .false)),.none⟩,⟨.some 31,.mov (.t 30),.none⟩,⟨.some 32,.mov (.t 3),.some ((.t 31),.true)⟩,⟨.some 33,.mov (.t 0),.some ((.t 31),.true)⟩,⟨.some 34,.call (.c (.fn 14 [])) [.t 32,.t 33],.some ((.t 31),.true)⟩,⟨.some 35,.pick (.t 31) (.t 34) (.c (.bool .false)),.none⟩,⟨.some 36,.mov (.t 35),.none⟩,⟨.some 37,.call (.c (.fn 27 [])) [],.some ((.t 36),.true)⟩,⟨.some 38,.pick (.t 36) (.t 37) (.c (.bool .false)),.none⟩,⟨.some 2,.mov (.t 38),.none⟩]) .ret))))),[.tmp (.t 2)]⟩
theorem e8 : cfn Tryd.prog Tryd.f8 = some c8 := by kernel_rfl
theorem k8 : callable Tryd.prog 8 = true := by kernel_rfl
def c9 : VFn := ⟨81,.seq (.reg .false [⟨.some 4,.mov (.c (.bool .false)),.none⟩]) (.seq (.seq (.reg .false [⟨.some 12,.mov (.t 0),.none⟩,⟨.some 13,.call (.c (.fn 26 [])) [.t 12],.none⟩,⟨.some 14,.mov (.t 13),.none⟩,⟨.some 15,.mov (.t 1),.some ((.t 14),.false)⟩,⟨.some 16,.call (.c (.fn 26 [])) [.t 15],.some ((.t 14),.false)⟩,⟨.some 17,.pick (.t 14) (.c (.bool .true)) (.t 16),.none⟩]) (.cond (.t 17) (.seq (.reg .false [⟨.some 18,.call (.c (.fn 27 [])) [],.none⟩,⟨.some 4,.mov (.t 18),.none⟩]) .ret) .skip)) (.seq (.reg .false [⟨.some 20,.mov (.t 0),.none⟩,⟨.some 21,.call (.c (.fn 28 [])) [.t 20],.none⟩,⟨.some 19,.mov (.t 21),.none⟩,⟨.some 22,.ext 0 (.t 19),.none⟩,⟨.some 23,.ext 1 (.t 19),.none⟩,⟨.some 5,.mov (.t 22),.none⟩,⟨.some 6,.mov (.t 23),.none⟩]) (.seq (.reg .false [⟨.some 25,.mov (.t 1),.none⟩,⟨.some 26,.call (.c (.fn 28 [])) [.t 25],.none⟩,⟨.some 24,.mov (.t 26),.none⟩,⟨.some 27,.ext 0 (.t 24),.none⟩,⟨.some 28,.ext 1 (.t 24),.none⟩,⟨.some 7,.mov (.t 27),.none⟩,⟨.some 8,.mov (.t 28),.none⟩]) (.seq (.seq (.reg .false [⟨.some 29,.mov (.t 6),.none⟩,⟨.some 30,.bin .eql (.t 29) (.c (.int .i64 0)),.none⟩,⟨.some 31,.mov (.t 0),.none⟩,⟨.some 32,.call (.c (.fn 24 [])) [.t 31],.none⟩,⟨.some 33,.binB .true (.t 30) (.t 32),.none⟩,⟨.some 34,.mov (.t 33),.none⟩,⟨.some 35,.mov (.t 8),.some ((.t 34),.false)⟩,⟨.some 36,.bin .eql (.t 35) (.c (.int .i64 0)),.some ((.t 34),.false)⟩,⟨.some 37,.mov (.t 1),.some ((.t 34),.false)⟩,⟨.some 38,.call (.c (.fn 24 [])) [.t 37],.some ((.t 34),.false)⟩,⟨.some 39,.binB .true (.t 36) (.t 38),.some ((.t 34),.false)⟩,⟨.some 40,.pick (.t 34) (.c (.bool .true)) (.t 39),.none⟩]) (.cond (.t 40) (.seq (.reg .false [⟨.some 4,.mov (.c (.bool .false)),.none⟩]) .ret) .skip)) (.seq (.seq (.reg .false [⟨.some 41,.mov (.t 6),.none⟩,⟨.some 42,.bin .neq (.t 41) (.c (.int .i64 0)),.none⟩]) (.cond (.t 42) (.seq (.reg .false [⟨.some 43,.mov (.t 5),.none⟩,⟨.some 44,.bin .eql (.t 43) (.c (.str [])),.none⟩,⟨.some 45,.mov (.t 44),.none⟩,⟨.some 46,.mov (.t 6),.some ((.t 45),.true)⟩,⟨.some 47,.bin .eql (.t 46) (.c (.int .i64 4)),.some ((.t 45),.true)⟩,⟨.some 48,.pick (.t 45) (.t 47) (.c (.bool .false)),.none⟩,⟨.some 49,.mov (.t 48),.none⟩,⟨.some 50,.call (.c (.fn 27 [])) [],.some ((.t 49),.true)⟩,⟨.some 51,.pick (.t 49) (.t 50) (.c (.bool .false)),.none⟩,⟨.some 4,.mov (.t 51),.none⟩]) .ret) .skip)) (.seq (.reg .false [⟨.some 53,.mov (.t 5),.none⟩,⟨.some 54,.call (.c (.fn 12 [])) [.t 53],.none⟩,⟨.some 52,.mov (.t 54),.none⟩,⟨.some 55,.ext 0 (.t 52),.none⟩,⟨.some 56,.ext 1 (.t 52),.none⟩,⟨.some 57,.ext 2 (.t 52),.none⟩,⟨.some 9,.mov (.t 55),.none⟩,⟨.some 10,.mov (.t 56),.none⟩,⟨.some 11,.mov (.t 57),.none⟩]) (.seq (.reg .false [⟨.some 58,.mov (.t 11),.none⟩,⟨.some 59,.bin .eql (.t 58) (.c (.int .i64 0)),.none⟩,⟨.some 60,.mov (.t 59),.none⟩,⟨.some 61,.mov (.t 9),.some ((.t 60),.true)⟩,⟨.some 62,.mov (.t 0),.some ((.t 60),.true)⟩,⟨.some 63,.call (.c (.fn 21 [])) [.t 61,.t 62],.some ((.t 60),.true)⟩,⟨.some 64,.pick (.t 60) (.t 63) (.c (.bool .false)),.none⟩,⟨.some 65,.mov (.t 64),.none⟩,⟨.some 66,.mov (.t 8),.some ((.t 65),.true)⟩,⟨.some 67,.bin .neq (.t 66) (.c (.int .i64 0)),.some ((.t 65),.true)⟩,⟨.some 68,.mov (.t 67),.some ((.t 65),.true)⟩,⟨.some 69,.mov (.t 5),.some ((.t 68),.false)⟩,⟨.some 70,.mov (.t 7),.some ((.t 68),.false)⟩,⟨.some 71,.bin .eql (.t 69) (.t 70),.some ((.t 68),.false)⟩,⟨.some 72,.mov (.t 0),.some ((.t 68),.false)⟩,⟨.some 73,.mov (.t 1),.some ((.t 68),.false)⟩,⟨.some 74,.call (.c (.fn 21 [])) [.t 72,.t 73],.some ((.t 68),.false)⟩,⟨.some 75,.binB .false (.t 71) (.t 74),.some ((.t 68),.false)⟩,⟨.some 76,.pick (.t 68) (.c (.bool .true)) (.t 75),.some ((.t 65),.true)⟩,⟨.some 77,.pick (.t 65) (.t 76) (.c (.bool .false)),.none⟩,⟨.some 78,.mov (.t 77),.none⟩,⟨.some 79,.call (.c (.fn 27 [])) [],.some ((.t 78),.true)⟩,⟨.some 80,.pick (.t 78) (.t 79) (.c (.bool .false)),.none⟩,⟨.some 4,.mov (.t 80),.none⟩]) .ret))))))),[.tmp (.t 4)]⟩
def c10 : VFn := ⟨120,.seq (.reg .false [⟨.some 2,.mov (.c (.bool .false)),.none⟩]) (.seq (.seq (.reg .false [⟨.some 16,.mov (.t 0),.none⟩,⟨.some 17,.len .true (.t 16),.none⟩,⟨.some 18,.bin .gtr (.t 17) (.c (.int .i64 3000)),.none⟩]) (.cond (.t 18) (.seq (.reg .false [⟨.some 19,.call (.c (.fn 27 [])) [],.none⟩,⟨.some 2,.mov (.t 19),.none⟩]) .ret) .skip)) (.seq (.reg .false [⟨.some 21,.mov (.t 0),.none⟩,⟨.some 22,.call (.c (.fn 30 [])) [.t 21],.none⟩,⟨.some 20,.mov (.t 22),.none⟩,⟨.some 23,.ext 0 (.t 20),.none⟩,⟨.some 24,.ext 1 (.t 20),.none⟩,⟨.some 25,.ext 2 (.t 20),.none⟩,⟨.some 3,.mov (.t 23),.none⟩,⟨.some 4,.mov (.t 24),.none⟩,⟨.some 5,.mov (.t 25),.none⟩]) (.seq (.reg .false [⟨.some 27,.mov (.t 0),.none⟩,⟨.some 28,.call (.c (.fn 12 [])) [.t 27],.none⟩,⟨.some 26,.mov (.t 28),.none⟩,⟨.some 29,.ext 0 (.t 26),.none⟩,⟨.some 30,.ext 1 (.t 26),.none⟩,⟨.some 31,.ext 2 (.t 26),.none⟩,⟨.some 6,.mov (.t 29),.none⟩,⟨.some 7,.mov (.t 30),.none⟩,⟨.some 8,.mov (.t 31),.none⟩]) (.seq (.seq (.reg .false [⟨.some 32,.mov (.t 5),.none⟩,⟨.some 33,.mov (.t 8),.none⟩,⟨.some 34,.bin .neq (.t 32) (.t 33),.none⟩,⟨.some 35,.mov (.t 34),.none⟩,⟨.some 36,.mov (.t 4),.some ((.t 35),.false)⟩,⟨.some 37,.mov (.t 7),.some ((.t 35),.false)⟩,⟨.some 38,.bin .neq (.t 36) (.t 37),.some ((.t 35),.false)⟩,⟨.some 39,.pick (.t 35) (.c (.bool .true)) (.t 38),.none⟩]) (.cond (.t 39) (.seq (.reg .false [⟨.some 2,.mov (.c (.bool .false)),.none⟩]) .ret) .skip)) (.seq (.seq (.reg .false [⟨.some 40,.mov (.t 5),.none⟩,⟨.some 41,.bin .neq (.t 40) (.c (.int .i64 0)),.none⟩]) (.cond (.t 41) (.seq (.reg .false [⟨.some 42,.mov (.t 3),.none⟩,⟨.some 43,.bin .eql (.t 42) (.c (.str [])),.none⟩,⟨.some 44,.mov (.t 43),.none⟩,⟨.some 45,.call (.c (.fn 27 [])) [],.some ((.t 44),.true)⟩,⟨.some 46,.pick (.t 44) (.t 45) (.c (.bool .false)),.none⟩,⟨.some 2,.mov (.t 46),.none⟩]) .ret) .skip)) (.seq (.reg .false [⟨.some 48,.mov (.t 3),.none⟩,⟨.some 49,.call (.c (.fn 30 [])) [.t 48],.none⟩,⟨.some 47,.mov (.t 49),.none⟩,⟨.some 50,.ext 0 (.t 47),.none⟩,⟨.some 51,.ext 1 (.t 47),.none⟩,⟨.some 52,.ext 2 (.t 47),.none⟩,⟨.some 9,.mov (.t 50),.none⟩,⟨.some 10,.mov (.t 51),.none⟩,⟨.some 11,.mov (.t 52),.none⟩]) (.seq (.reg .false [⟨.some 54,.mov (.t 3),.none⟩,⟨.some 55,.call (.c (.fn 12 [])) [.t 54],.none⟩,⟨.some 53,.mov (.t 55),.none⟩,⟨.some 56,.ext 0 (.t 53),.none⟩,⟨.some 57,.ext 1 (.t 53),.none⟩,⟨.some 58,.ext 2 (.t 53),.none⟩,⟨.some 12,.mov (.t 56),.none⟩,⟨.some 13,.mov (.t 57),.none⟩,⟨.some 14,.mov (.t 58),.none⟩]) (.seq (.seq (.reg .false [⟨.some 15,.mov (.c (.int .i64 1)),.none⟩]) (.block 0 (.loop (.seq (.seq (.reg .false [⟨.some 59,.mov (.t 15),.none⟩,⟨.some 60,.mov (.t 3),.none⟩,⟨.some 61,.len .true (.t 60),.none⟩,⟨.some 62,.bin .lss (.t 59) (.t 61),.none⟩]) (.cond (.t 62) .skip (.exit 0))) (.seq (.block 1 (.seq (.reg .false [⟨.some 65,.mov (.t 3),.none⟩,⟨.some 66,.mov (.t 15),.none⟩,⟨.some 67,.idxS (.t 65) (.t 66),.none⟩,⟨.some 68,.bin .eql (.t 67) (.c (.int .u8 9)),.none⟩,⟨.some 69,.mov (.t 68),.none⟩,⟨.some 70,.mov (.t 3),.some ((.t 69),.false)⟩,⟨.some 71,.mov (.t 15),.some ((.t 69),.false)⟩,⟨.some 72,.idxS (.t 70) (.t 71),.some ((.t 69),.false)⟩,⟨.some 73,.bin .eql (.t 72) (.c (.int .u8 35)),.some ((.t 69),.false)⟩,⟨.some 74,.pick (.t 69) (.c (.bool .true)) (.t 73),.none⟩,⟨.some 75,.mov (.t 74),.none⟩,⟨.some 76,.mov (.t 3),.some ((.t 75),.false)⟩,⟨.some 77,.mov (.t 15),.some ((.t 75),.false)⟩,⟨.some 78,.idxS (.t 76) (.t 77),.some ((.t 75),.false)⟩,⟨.some 79,.bin .eql (.t 78) (.c (.int .u8 32)),.some ((.t 75),.false)⟩,⟨.some 80,.mov (.t 79),.some ((.t 75),.false)⟩,⟨.some 81,.mov (.t 3),.some ((.t 80),.true)⟩,⟨.some 82,.mov (.t 15),.some ((.t 80),.true)⟩,⟨.some 83,.bin .sub (.t 82) (.c (.int .i64 1)),.some ((.t 80),.true)⟩,⟨.some 84,.idxS (.t 81) (.t 83),.some ((.t 80),.true)⟩,⟨.some 85,.bin .eql (.t 84) (.c (.int .u8 32)),.some ((.t 80),.true)⟩,⟨.some 86,.pick (.t 80) (.t 85) (.c (.bool .false)),.some ((.t 75),.false)⟩,⟨.some 87,.pick (.t 75) (.c (.bool .true)) (.t 86),.none⟩,⟨.some 88,.mov (.t 87),.none⟩,⟨.some 89,.mov (.t 3),.some ((.t 88),.false)⟩,⟨.some 90,.mov (.t 15),.some ((.t 88),.false)⟩,⟨.some 91,.idxS (.t 89) (.t 90),.some ((.t 88),.false)⟩,⟨.some 92,.bin .eql (.t 91) (.c (.int .u8 10)),.some ((.t 88),.false)⟩,⟨.some 93,.mov (.t 92),.some ((.t 88),.false)⟩,⟨.some 94,.mov (.t 3),.some ((.t 93),.true)⟩,⟨.some 95,.mov (.t 15),.some ((.t 93),.true)⟩,⟨.some 96,.bin .sub (.t 95) (.c (.int .i64 1)),.some ((.t 93),.true)⟩,⟨.some 97,.idxS (.t 94) (.t 96),.some ((.t 93),.true)⟩,⟨.some 98,.bin .eql (.t 97) (.c (.int .u8 10)),.some ((.t 93),.true)⟩,⟨.some 99,.pick (.t 93) (.t 98) (.c (.bool .false)),.some ((.t 88),.false)⟩,⟨.some 100,.pick (.t 88) (.c (.bool .true)) (.t 99),.none⟩]) (.cond (.t 100) (.seq (.reg .false [⟨.some 2,.mov (.c (.bool .false)),.none⟩]) .ret) .skip))) (.reg .false [⟨.some 63,.mov (.t 15),.none⟩,⟨.some 64,.bin .add (.t 63) (.c (.int .i64 1)),.none⟩,⟨.some 15,.mov (.t 64),.none⟩])))))) (.seq (.reg .false [⟨.some 101,.mov (.t 11),.none⟩,⟨.some 102,.bin .eql (.t 101) (.c (.int .i64 0)),.none⟩,⟨.some 103,.mov (.t 102),.none⟩,⟨.some 104,.mov (.t 9),.some ((.t 103),.true)⟩,⟨.some 105,.mov (.t 3),.some ((.t 103),.true)⟩,⟨.some 106,.bin .eql (.t 104) (.t 105),.some ((.t 103),.true)⟩,⟨.some 107,.pick (.t 103) (.t 106) (.c (.bool .false)),.none⟩,⟨.some 108,.mov (.t 107),.none⟩,⟨.some 109,.mov (.t 14),.some ((.t 108),.true)⟩,⟨.some 110,.bin .eql (.t 109) (.c (.int .i64 0)),.some ((.t 108),.true)⟩,⟨.some 111,.pick (.t 108) (.t 110) (.c (.bool .false)),.none⟩,⟨.some 112,.mov (.t 111),.none⟩,⟨.some 113,.mov (.t 6),.some ((.t 112),.true)⟩,⟨.some 114,.mov (.t 12),.some ((.t 112),.true)⟩,⟨.some 115,.call (.c (.fn 21 [])) [.t 113,.t 114],.some ((.t 112),.true)⟩,⟨.some 116,.pick (.t 112) (.t 115) (.c (.bool .false)),.none⟩,⟨.some 117,.mov (.t 116),.none⟩,⟨.some 118,.call (.c (.fn 27 [])) [],.some ((.t 117),.true)⟩,⟨.some 119,.pick (.t 117) (.t 118) (.c (.bool .false)),.none⟩,⟨.some 2,.mov (.t 119),.none⟩]) .ret))))))))),[.tmp (.t 2)]⟩
def c11 : VFn := ⟨34,.seq (.reg .false [⟨.some 0,.mov (.c (.bool .false)),.none⟩]) (.seq (.reg .false [⟨.some 1,.call (.c (.fn 32 [])) [.c (.int .i64 2),.c (.int .i64 5),.c (.int .i64 2),.c (.int .i64 0)],.none⟩,⟨.some 2,.bslice 3 1 [.c (.int .i64 30),.c (.int .i64 40)],.none⟩,⟨.some 3,.build [.int .i64 0,.int .i64 0,.int .i64 0,.int .i64 0,.int .i64 0,.int .i64 0,.int .i64 0,.int .i64 0,.int .i64 0,.int .i64 0,.int .i64 0,.int .i64 0,.int .i64 0,.int .i64 0,.int .i64 0,.int .i64 0,.nils,.int .i64 0,.int .i64 0,.int .i64 0] [(0,(1,(.c (.int .i64 2)))),(1,(1,(.c (.int .i64 1)))),(14,(1,(.c (.int .i64 10)))),(15,(1,(.c (.int .i64 2)))),(16,(1,(.t 2)))],.none⟩,⟨.some 4,.bslice 37 20 [.t 1,.t 3],.none⟩,⟨.some 5,.call (.c (.fn 31 [])) [.c (.str [91,109,53,32,40,49,48,32,50,32,51,48,32,52,48,41,93]),.t 4],.none⟩,⟨.some 6,.mov (.t 5),.none⟩,⟨.some 7,.build [.int .i64 0,.int .i64 0,.int .i64 0,.int .i64 0,.int .i64 0,.int .i64 0,.int .i64 0,.int .i64 0,.int .i64 0,.int .i64 0,.int .i64 0,.int .i64 0,.int .i64 0,.int .i64 0,.int .i64 0,.int .i64 0,.nils,.int .i64 0,.int .i64 0,.int .i64 0] [(0,(1,(.c (.int .i64 3)))),(1,(1,(.c (.int .i64 1)))),(18,(1,(.c (.int .i64 3)))),(19,(1,(.c (.int .i64 4))))],.some ((.t 6),.true)⟩,⟨.some 8,.build [.int .i64 0,.int .i64 0,.int .i64 0,.int .i64 0,.int .i64 0,.int .i64 0,.int .i64 0,.int .i64 0,.int .i64 0,.int .i64 0,.int .i64 0,.int .i64 0,.int .i64 0,.int .i64 0,.int .i64 0,.int .i64 0,.nils,.int .i64 0,.int .i64 0,.int .i64 0] [(0,(1,(.c (.int .i64 4)))),(1,(1,(.c (.int .i64 1)))),(17,(1,(.c (.int .i64 1)))),(18,(1,(.c (.int .i64 5)))),(19,(1,(.c (.int .i64 6))))],.some ((.t 6),.true)⟩,⟨.some 9,.bslice 37 20 [.t 7,.t 8],.some ((.t 6),.true)⟩,⟨.some 10,.call (.c (.fn 31 [])) [.c (.str [123,51,32,52,125,60,76,32,53,32,54,62]),.t 9],.some ((.t 6),.true)⟩,⟨.some 11,.pick (.t 6) (.t 10) (.c (.bool .false)),.none⟩,⟨.some 12,.mov (.t 11),.none⟩,⟨.some 13,.call (.c (.fn 32 [])) [.c (.int .i64 1),.c (.int .i64 0),.c (.int .i64 2),.c (.int .i64 0)],.some ((.t 12),.true)⟩,⟨.some 14,.bslice 37 20 [.t 13],.some ((.t 12),.true)⟩,⟨.some 15,.call (.c (.fn 31 [])) [.c (.str [91,93]),.t 14],.some ((.t 12),.true)⟩,⟨.some 16,.pick (.t 12) (.t 15) (.c (.bool .false)),.none⟩,⟨.some 17,.mov (.t 16),.none⟩,⟨.some 18,.call (.c (.fn 32 [])) [.c (.int .i64 1),.c (.int .i64 0),.c (.int .i64 1),.c (.int .i64 4)],.some ((.t 17),.true)⟩,⟨.some 19,.bslice 37 20 [.t 18],.some ((.t 17),.true)⟩,⟨.some 20,.call (.c (.fn 31 [])) [.c (.str [91,119,49,66,52,93]),.t 19],.some ((.t 17),.true)⟩,⟨.some 21,.pick (.t 17) (.t 20) (.c (.bool .false)),.none⟩,⟨.some 22,.mov (.t 21),.none⟩,⟨.some 23,.call (.c (.fn 33 [])) [.c (.str [93]),.c (.int .i64 0)],.some ((.t 22),.true)⟩,⟨.some 24,.pick (.t 22) (.t 23) (.c (.bool .false)),.none⟩,⟨.some 25,.mov (.t 24),.none⟩,⟨.some 26,.call (.c (.fn 33 [])) [.c (.str [91]),.c (.int .i64 1)],.some ((.t 25),.true)⟩,⟨.some 27,.pick (.t 25) (.t 26) (.c (.bool .false)),.none⟩,⟨.some 28,.mov (.t 27),.none⟩,⟨.some 29,.call (.c (.fn 33 [])) [.c (.str [40,49,32,49,41]),.c (.int .i64 4)],.some ((.t 28),.true)⟩,⟨.some 30,.pick (.t 28) (.t 29) (.c (.bool .false)),.none⟩,⟨.some 31,.mov (.t 30),.none⟩,⟨.some 32,.call (.c (.fn 33 [])) [.c (.str [91,109,49,109,50,93]),.c (.int .i64 3)],.some ((.t 31),.true)⟩,⟨.some 33,.pick (.t 31) (.t 32) (.c (.bool .false)),.none⟩,⟨.some 0,.mov (.t 33),.none⟩]) .ret),[.tmp (.t 0)]⟩
def c12 : VFn := ⟨46,.seq (.reg .false [⟨.some 2,.mov (.c .nils),.none⟩,⟨.some 3,.mov (.c (.int .i64 0)),.none⟩,⟨.some 4,.mov (.c (.int .i64 0)),.none⟩]) (.seq (.reg .false [⟨.some 9,.mov (.t 0),.none⟩,⟨.some 10,.call (.c (.fn 16 [])) [.t 9],.none⟩,⟨.some 8,.mov (.t 10),.none⟩,⟨.some 11,.ext 0 (.t 8),.none⟩,⟨.some 12,.ext 1 (.t 8),.none⟩,⟨.some 13,.ext 2 (.t 8),.none⟩,⟨.some 5,.mov (.t 11),.none⟩,⟨.some 3,.mov (.t 12),.none⟩,⟨.some 4,.mov (.t 13),.none⟩]) (.seq (.seq (.reg .false [⟨.some 14,.mov (.t 4),.none⟩,⟨.some 15,.bin .neq (.t 14) (.c (.int .i64 0)),.none⟩]) (.cond (.t 15) (.seq (.reg .false [⟨.some 16,.mov (.t 3),.none⟩,⟨.some 17,.mov (.t 4),.none⟩,⟨.some 2,.mov (.c .nils),.none⟩,⟨.some 3,.mov (.t 16),.none⟩,⟨.some 4,.mov (.t 17),.none⟩]) .ret) .skip)) (.seq (.reg .false [⟨.some 18,.mov (.t 5),.none⟩,⟨.some 19,.build [.nils,.bool .false] [(0,(1,(.t 18)))],.none⟩,⟨.some 20,.box 57 2 (.t 19),.none⟩,⟨.some 6,.mov (.t 20),.none⟩]) (.seq (.reg .false [⟨.some 21,.mov (.t 6),.none⟩,⟨.some 22,.call (.c (.fn 34 [])) [.t 21],.none⟩,⟨.some 7,.mov (.t 22),.none⟩]) (.seq (.block 0 (.seq (.reg .false [⟨.some 24,.mov (.t 6),.none⟩,⟨.some 25,.nilCheck (.t 24),.none⟩,⟨.some 26,.fldA .false 0 1 (.t 25),.none⟩,⟨.some 27,.load .false 1 (.t 26),.none⟩,⟨.some 28,.len .false (.t 27),.none⟩,⟨.some 29,.bin .gtr (.t 28) (.c (.int .i64 0)),.none⟩,⟨.some 23,.mov (.t 29),.none⟩]) (.cond (.t 23) (.seq (.reg .true [⟨.some 30,.mov (.t 6),.none⟩,⟨.some 31,.nilCheck (.t 30),.none⟩,⟨.some 32,.fldA .false 0 1 (.t 31),.none⟩,⟨.some 33,.load .false 1 (.t 32),.none⟩,⟨.some 34,.idxA 4 (.t 33) (.c (.int .i64 0)),.none⟩,⟨.some 35,.fldA .false 3 1 (.t 34),.none⟩,⟨.some 36,.load .false 1 (.t 35),.none⟩,⟨.some 2,.mov (.c .nils),.none⟩,⟨.some 3,.mov (.t 36),.none⟩,⟨.some 4,.mov (.c (.int .i64 1)),.none⟩]) .ret) (.seq (.reg .false [⟨.some 38,.mov (.t 6),.none⟩,⟨.some 39,.nilCheck (.t 38),.none⟩,⟨.some 40,.fldA .false 1 1 (.t 39),.none⟩,⟨.some 41,.load .false 1 (.t 40),.none⟩,⟨.some 37,.mov (.t 41),.none⟩]) (.cond (.t 37) (.seq (.reg .false [⟨.some 42,.mov (.t 0),.none⟩,⟨.some 43,.len .true (.t 42),.none⟩,⟨.some 2,.mov (.c .nils),.none⟩,⟨.some 3,.mov (.t 43),.none⟩,⟨.some 4,.mov (.c (.int .i64 1)),.none⟩]) .ret) .skip))))) (.seq (.reg .false [⟨.some 44,.mov (.t 7),.none⟩,⟨.some 45,.call (.c (.fn 35 [])) [.t 44],.none⟩,⟨.some 2,.mov (.t 45),.none⟩,⟨.some 3,.mov (.c (.int .i64 0)),.none⟩,⟨.some 4,.mov (.c (.int .i64 0)),.none⟩]) .ret)))))),[.tmp (.t 2),.tmp (.t 3),.tmp (.t 4)]⟩
theorem e12 : cfn Tryd.prog Tryd.f12 = some c12 := by kernel_rfl
theorem k12 : callable Tryd.prog 12 = true := by kernel_rfl
def c14 : VFn := ⟨27,.seq (.reg .false [⟨.some 4,.mov (.c (.bool .false)),.none⟩]) (.seq (.seq (.reg .false [⟨.some 6,.mov (.t 0),.none⟩,⟨.some 7,.len .false (.t 6),.none⟩,⟨.some 8,.mov (.t 1),.none⟩,⟨.some 9,.len .false (.t 8),.none⟩,⟨.some 10,.bin .neq (.t 7) (.t 9),.none⟩]) (.cond (.t 10) (.seq (.reg .false [⟨.some 4,.mov (.c (.bool .false)),.none⟩]) .ret) .skip)) (.seq (.seq (.reg .false [⟨.some 5,.mov (.c (.int .i64 0)),.none⟩]) (.block 0 (.loop (.seq (.seq (.reg .false [⟨.some 11,.mov (.t 5),.none⟩,⟨.some 12,.mov (.t 0),.none⟩,⟨.some 13,.len .false (.t 12),.none⟩,⟨.some 14,.bin .lss (.t 11) (.t 13),.none⟩]) (.cond (.t 14) .skip (.exit 0))) (.seq (.block 1 (.seq (.reg .true [⟨.some 17,.mov (.t 0),.none⟩,⟨.some 18,.mov (.t 5),.none⟩,⟨.some 19,.idxA 20 (.t 17) (.t 18),.none⟩,⟨.some 20,.load .true 20 (.t 19),.none⟩,⟨.some 21,.mov (.t 1),.none⟩,⟨.some 22,.mov (.t 5),.none⟩,⟨.some 23,.idxA 20 (.t 21) (.t 22),.none⟩,⟨.some 24,.load .true 20 (.t 23),.none⟩,⟨.some 25,.call (.c (.fn 38 [])) [.t 20,.t 24],.none⟩,⟨.some 26,.not (.t 25),.none⟩]) (.cond (.t 26) (.seq (.reg .false [⟨.some 4,.mov (.c (.bool .false)),.none⟩]) .ret) .skip))) (.reg .false [⟨.some 15,.mov (.t 5),.none⟩,⟨.some 16,.bin .add (.t 15) (.c (.int .i64 1)),.none⟩,⟨.some 5,.mov (.t 16),.none⟩])))))) (.seq (.reg .false [⟨.some 4,.mov (.c (.bool .true)),.none⟩]) .ret))),[.tmp (.t 4)]⟩
theorem e14 : cfn Tryd.prog Tryd.f14 = some c14 := by kernel_rfl
theorem k14 : callable Tryd.prog 14 = true := by kernel_rfl
def c16 : VFn := ⟨34,.seq (.reg .false [⟨.some 2,.alloc 29 1 .nils,.none⟩,⟨.some 3,.alloc 3 1 (.int .i64 0),.none⟩,⟨.some 4,.alloc 24 1 (.int .i64 0),.none⟩]) (.seq (.reg .false [⟨.some 9,.mov (.t 0),.none⟩,⟨.some 10,.call (.c (.fn 39 [])) [.t 9],.none⟩,⟨.some 8,.mov (.t 10),.none⟩,⟨.some 11,.ext 0 (.t 8),.none⟩,⟨.some 12,.ext 1 (.t 8),.none⟩,⟨.some 5,.mov (.t 11),.none⟩,⟨.some 6,.mov (.t 12),.none⟩]) (.seq (.seq (.reg .false [⟨.some 13,.mov (.t 6),.none⟩]) (.cond (.t 13) (.reg .false [⟨.some 14,.mov (.t 0),.none⟩,⟨.some 15,.len .true (.t 14),.none⟩,⟨.some 5,.mov (.t 15),.none⟩]) .skip)) (.seq (.seq (.reg .false [⟨.some 16,.mov (.t 0),.none⟩,⟨.some 17,.mov (.t 5),.none⟩,⟨.some 18,.sliceS (.t 16) .none (.some (.t 17)),.none⟩,⟨.some 19,.call (.c (.fn 40 [])) [.t 18],.none⟩]) (.block 0 (.rangeF (.t 19) [20] (.reg .false [⟨.some 7,.alloc 61 4 (.agg [.int .i64 0,.int .i32 0,.int .i64 0,.int .i64 0]),.none⟩,⟨.none,.store 4 (.t 7) (.t 20),.none⟩]) (.block 1 (.seq (.seq (.reg .false [⟨.some 21,.fldA .false 2 1 (.t 7),.none⟩,⟨.some 22,.load .false 1 (.t 21),.none⟩,⟨.some 23,.bin .lss (.t 22) (.c (.int .i64 0)),.none⟩]) (.cond (.t 23) (.seq (.regA [⟨.some 24,.fldA .false 3 1 (.t 7),.none⟩,⟨.some 25,.load .false 1 (.t 24),.none⟩,⟨.none,.store 1 (.t 2) (.c .nils),.none⟩,⟨.none,.store 1 (.t 3) (.t 25),.none⟩,⟨.none,.store 1 (.t 4) (.c (.int .i64 1)),.none⟩] [[],[0],[],[1,2,0,1,2],[3,0,1,2,3]]) .ret) .skip)) (.reg .false [⟨.some 26,.load .false 1 (.t 2),.none⟩,⟨.some 27,.load .true 4 (.t 7),.none⟩,⟨.some 28,.bslice 61 4 [.t 27],.none⟩,⟨.some 29,.append 61 4 32 (.t 26) (.t 28),.none⟩,⟨.none,.store 1 (.t 2) (.t 29),.none⟩])))))) (.seq (.seq (.reg .false [⟨.some 30,.mov (.t 6),.none⟩,⟨.some 31,.not (.t 30),.none⟩]) (.cond (.t 31) (.seq (.reg .false [⟨.some 32,.mov (.t 5),.none⟩,⟨.none,.store 1 (.t 2) (.c .nils),.none⟩,⟨.none,.store 1 (.t 3) (.t 32),.none⟩,⟨.none,.store 1 (.t 4) (.c (.int .i64 1)),.none⟩]) .ret) .skip)) (.seq (.reg .false [⟨.some 33,.load .false 1 (.t 2),.none⟩,⟨.none,.store 1 (.t 2) (.t 33),.none⟩,⟨.none,.store 1 (.t 3) (.c (.int .i64 0)),.none⟩,⟨.none,.store 1 (.t 4) (.c (.int .i64 0)),.none⟩]) .ret))))),[.cell .false 1 (.t 2),.cell .false 1 (.t 3),.cell .false 1 (.t 4)]⟩
theorem e16 : cfn Tryd.prog Tryd.f16 = some c16 := by kernel_rfl
theorem k16 : callable Tryd.prog 16 = true := by kernel_rfl
def c20 : VFn := ⟨29,.seq (.reg .false [⟨.some 2,.mov (.c .nils),.none⟩]) (.seq (.reg .false [⟨.some 3,.mov (.c .nils),.none⟩]) (.seq (.seq (.reg .false [⟨.some 4,.mov (.c (.int .i64 0)),.none⟩]) (.block 0 (.loop (.seq (.seq (.reg .false [⟨.some 6,.mov (.t 4),.none⟩,⟨.some 7,.mov (.t 0),.none⟩,⟨.some 8,.len .false (.t 7),.none⟩,⟨.some 9,.bin .lss (.t 6) (.t 8),.none⟩]) (.cond (.t 9) .skip (.exit 0))) (.seq (.block 1 (.seq (.reg .false [⟨.some 12,.mov (.t 0),.none⟩,⟨.some 13,.mov (.t 4),.none⟩,⟨.some 14,.idxA 20 (.t 12) (.t 13),.none⟩,⟨.some 15,.load .true 20 (.t 14),.none⟩,⟨.some 5,.alloc 37 20 (.agg [.int .i64 0,.int .i64 0,.int .i64 0,.int .i64 0,.int .i64 0,.int .i64 0,.int .i64 0,.int .i64 0,.int .i64 0,.int .i64 0,.int .i64 0,.int .i64 0,.int .i64 0,.int .i64 0,.int .i64 0,.int .i64 0,.nils,.int .i64 0,.int .i64 0,.int .i64 0]),.none⟩,⟨.none,.store 20 (.t 5) (.t 15),.none⟩]) (.seq (.reg .false [⟨.some 16,.bslice 3 1 [],.none⟩,⟨.some 17,.mov (.t 0),.none⟩,⟨.some 18,.mov (.t 4),.none⟩,⟨.some 19,.idxA 20 (.t 17) (.t 18),.none⟩,⟨.some 20,.fldA .false 16 1 (.t 19),.none⟩,⟨.some 21,.load .false 1 (.t 20),.none⟩,⟨.some 22,.append 3 1 8 (.t 16) (.t 21),.none⟩,⟨.some 23,.fldA .false 16 1 (.t 5),.none⟩,⟨.none,.store 1 (.t 23) (.t 22),.none⟩]) (.reg .false [⟨.some 24,.mov (.t 3),.none⟩,⟨.some 25,.load .true 20 (.t 5),.none⟩,⟨.some 26,.bslice 37 20 [.t 25],.none⟩,⟨.some 27,.append 37 20 176 (.t 24) (.t 26),.none⟩,⟨.some 3,.mov (.t 27),.none⟩])))) (.reg .false [⟨.some 10,.mov (.t 4),.none⟩,⟨.some 11,.bin .add (.t 10) (.c (.int .i64 1)),.none⟩,⟨.some 4,.mov (.t 11),.none⟩])))))) (.seq (.reg .false [⟨.some 28,.mov (.t 3),.none⟩,⟨.some 2,.mov (.t 28),.none⟩]) .ret))),[.tmp (.t 2)]⟩
theorem e20 : cfn Tryd.prog Tryd.f20 = some c20 := by kernel_rfl
theorem k20 : callable Tryd.prog 20 = true := by kernel_rfl
theorem k23 : callable Tryd.prog 23 = true := by kernel_rfl
def c24 : VFn := ⟨73,.seq (.reg .false [⟨.some 2,.mov (.c (.bool .false)),.none⟩]) (.seq (.reg .false [⟨.some 6,.mov (.t 0),.none⟩,⟨.some 7,.len .false (.t 6),.none⟩,⟨.some 8,.bslice 3 1 [.t 7],.none⟩,⟨.some 3,.mov (.t 8),.none⟩]) (.seq (.seq (.reg .false [⟨.some 9,.mov (.t 0),.none⟩,⟨.some 10,.len .false (.t 9),.none⟩,⟨.some 11,.mov (.c (.int .i64 0)),.none⟩]) (.block 0 (.loop (.seq (.reg .false [⟨.some 12,.bin .lss (.t 11) (.t 10),.none⟩]) (.seq (.cond (.t 12) .skip (.exit 0)) (.seq (.block 1 (.seq (.reg .false [⟨.some 13,.mov (.t 11),.none⟩,⟨.some 14,.idxA 20 (.t 9) (.t 11),.none⟩,⟨.some 15,.load .true 20 (.t 14),.none⟩,⟨.some 5,.alloc 37 20 (.agg [.int .i64 0,.int .i64 0,.int .i64 0,.int .i64 0,.int .i64 0,.int .i64 0,.int .i64 0,.int .i64 0,.int .i64 0,.int .i64 0,.int .i64 0,.int .i64 0,.int .i64 0,.int .i64 0,.int .i64 0,.int .i64 0,.nils,.int .i64 0,.int .i64 0,.int .i64 0]),.none⟩,⟨.some 4,.mov (.t 13),.none⟩,⟨.none,.store 20 (.t 5) (.t 15),.none⟩]) (.seq (.block 2 (.loop (.seq (.seq (.reg .false [⟨.some 16,.mov (.t 3),.none⟩,⟨.some 17,.len .false (.t 16),.none⟩,⟨.some 18,.bin .gtr (.t 17) (.c (.int .i64 1)),.none⟩,⟨.some 19,.mov (.t 18),.none⟩,⟨.some 20,.mov (.t 3),.some ((.t 19),.true)⟩,⟨.some 21,.mov (.t 3),.some ((.t 19),.true)⟩,⟨.some 22,.len .false (.t 21),.some ((.t 19),.true)⟩,⟨.some 23,.bin .sub (.t 22) (.c (.int .i64 1)),.some ((.t 19),.true)⟩,⟨.some 24,.idxA 1 (.t 20) (.t 23),.some ((.t 19),.true)⟩,⟨.some 25,.load .false 1 (.t 24),.some ((.t 19),.true)⟩,⟨.some 26,.mov (.t 4),.some ((.t 19),.true)⟩,⟨.some 27,.bin .eql (.t 25) (.t 26),.some ((.t 19),.true)⟩,⟨.some 28,.pick (.t 19) (.t 27) (.c (.bool .false)),.none⟩]) (.cond (.t 28) .skip (.exit 2))) (.block 3 (.reg .false [⟨.some 29,.mov (.t 3),.none⟩,⟨.some 30,.mov (.t 3),.none⟩,⟨.some 31,.len .false (.t 30),.none⟩,⟨.some 32,.bin .sub (.t 31) (.c (.int .i64 1)),.none⟩,⟨.some 33,.slice 1 (.t 29) .none (.some (.t 32)) .none,.none⟩,⟨.some 3,.mov (.t 33),.none⟩]))))) (.seq (.seq (.reg .true [⟨.some 34,.load .true 20 (.t 5),.none⟩,⟨.some 35,.call (.c (.fn 49 [])) [.t 34],.none⟩,⟨.some 36,.not (.t 35),.none⟩,⟨.some 37,.mov (.t 36),.none⟩,⟨.some 38,.fldA .false 1 1 (.t 5),.some ((.t 37),.false)⟩,⟨.some 39,.load .false 1 (.t 38),.some ((.t 37),.false)⟩,⟨.some 40,.bin .lss (.t 39) (.c (.int .i64 1)),.some ((.t 37),.false)⟩,⟨.some 41,.pick (.t 37) (.c (.bool .true)) (.t 40),.none⟩,⟨.some 42,.mov (.t 41),.none⟩,⟨.some 43,.fldA .false 1 1 (.t 5),.some ((.t 42),.false)⟩,⟨.some 44,.load .false 1 (.t 43),.some ((.t 42),.false)⟩,⟨.some 45,.mov (.t 3),.some ((.t 42),.false)⟩,⟨.some 46,.mov (.t 3),.some ((.t 42),.false)⟩,⟨.some 47,.len .false (.t 46),.some ((.t 42),.false)⟩,⟨.some 48,.bin .sub (.t 47) (.c (.int .i64 1)),.some ((.t 42),.false)⟩,⟨.some 49,.idxA 1 (.t 45) (.t 48),.some ((.t 42),.false)⟩,⟨.some 50,.load .false 1 (.t 49),.some ((.t 42),.false)⟩,⟨.some 51,.mov (.t 4),.some ((.t 42),.false)⟩,⟨.some 52,.bin .sub (.t 50) (.t 51),.some ((.t 42),.false)⟩,⟨.some 53,.bin .gtr (.t 44) (.t 52),.some ((.t 42),.false)⟩,⟨.some 54,.pick (.t 42) (.c (.bool .true)) (.t 53),.none⟩,⟨.some 55,.mov (.t 54),.none⟩,⟨.some 56,.fldA .false 0 1 (.t 5),.some ((.t 55),.false)⟩,⟨.some 57,.load .false 1 (.t 56),.some ((.t 55),.false)⟩,⟨.some 58,.bin .neq (.t 57) (.c (.int .i64 1)),.some ((.t 55),.false)⟩,⟨.some 59,.mov (.t 58),.some ((.t 55),.false)⟩,⟨.some 60,.fldA .false 1 1 (.t 5),.some ((.t 59),.true)⟩,⟨.some 61,.load .false 1 (.t 60),.some ((.t 59),.true)⟩,⟨.some 62,.bin .gtr (.t 61) (.c (.int .i64 1)),.some ((.t 59),.true)⟩,⟨.some 63,.pick (.t 59) (.t 62) (.c (.bool .false)),.some ((.t 55),.false)⟩,⟨.some 64,.pick (.t 55) (.c (.bool .true)) (.t 63),.none⟩]) (.cond (.t 64) (.seq (.reg .false [⟨.some 2,.mov (.c (.bool .false)),.none⟩]) .ret) .skip)) (.reg .false [⟨.some 65,.mov (.t 3),.none⟩,⟨.some 66,.mov (.t 4),.none⟩,⟨.some 67,.fldA .false 1 1 (.t 5),.none⟩,⟨.some 68,.load .false 1 (.t 67),.none⟩,⟨.some 69,.bin .add (.t 66) (.t 68),.none⟩,⟨.some 70,.bslice 3 1 [.t 69],.none⟩,⟨.some 71,.append 3 1 8 (.t 65) (.t 70),.none⟩,⟨.some 3,.mov (.t 71),.none⟩]))))) (.reg .false [⟨.some 72,.bin .add (.t 11) (.c (.int .i64 1)),.none⟩,⟨.some 11,.mov (.t 72),.none⟩]))))))) (.seq (.reg .false [⟨.some 2,.mov (.c (.bool .true)),.none⟩]) .ret))),[.tmp (.t 2)]⟩
theorem e24 : cfn Tryd.prog Tryd.f24 = some c24 := by kernel_rfl
theorem k24 : callable Tryd.prog 24 = true := by kernel_rfl
def c26 : VFn := ⟨20,.seq (.reg .false [⟨.some 2,.mov (.c (.bool .false)),.none⟩]) (.seq (.seq (.reg .false [⟨.some 4,.mov (.t 0),.none⟩,⟨.some 5,.len .false (.t 4),.none⟩,⟨.some 6,.bin .gtr (.t 5) (.c (.int .i64 200)),.none⟩]) (.cond (.t 6) (.seq (.reg .false [⟨.some 2,.mov (.c (.bool .true)),.none⟩]) .ret) .skip)) (.seq (.seq (.reg .false [⟨.some 3,.mov (.c (.int .i64 0)),.none⟩]) (.block 0 (.loop (.seq (.seq (.reg .false [⟨.some 7,.mov (.t 3),.none⟩,⟨.some 8,.mov (.t 0),.none⟩,⟨.some 9,.len .false (.t 8),.none⟩,⟨.some 10,.bin .lss (.t 7) (.t 9),.none⟩]) (.cond (.t 10) .skip (.exit 0))) (.seq (.block 1 (.seq (.reg .false [⟨.some 13,.mov (.t 0),.none⟩,⟨.some 14,.mov (.t 3),.none⟩,⟨.some 15,.idxA 20 (.t 13) (.t 14),.none⟩,⟨.some 16,.fldA .false 16 1 (.t 15),.none⟩,⟨.some 17,.load .false 1 (.t 16),.none⟩,⟨.some 18,.len .false (.t 17),.none⟩,⟨.some 19,.bin .gtr (.t 18) (.c (.int .i64 100)),.none⟩]) (.cond (.t 19) (.seq (.reg .false [⟨.some 2,.mov (.c (.bool .true)),.none⟩]) .ret) .skip))) (.reg .false [⟨.some 11,.mov (.t 3),.none⟩,⟨.some 12,.bin .add (.t 11) (.c (.int .i64 1)),.none⟩,⟨.some 3,.mov (.t 12),.none⟩])))))) (.seq (.reg .false [⟨.some 2,.mov (.c (.bool .false)),.none⟩]) .ret))),[.tmp (.t 2)]⟩
theorem e26 : cfn Tryd.prog Tryd.f26 = some c26 := by kernel_rfl
theorem k26 : callable Tryd.prog 26 = true := by kernel_rfl
def c27 : VFn := ⟨20,.seq (.reg .false [⟨.some 0,.mov (.c (.bool .false)),.none⟩]) (.seq (.reg .false [⟨.some 5,.call (.c (.fn 30 [])) [.c (.str [91,66,50,32,109,32,53,32,40,49,48,32,50,32,51,48,32,52,48,41,32,35,32,115,111])],.none⟩,⟨.some 4,.mov (.t 5),.none⟩,⟨.some 6,.ext 0 (.t 4),.none⟩,⟨.some 7,.ext 1 (.t 4),.none⟩,⟨.some 8,.ext 2 (.t 4),.none⟩,⟨.some 1,.mov (.t 6),.none⟩,⟨.some 2,.mov (.t 7),.none⟩,⟨.some 3,.mov (.t 8),.none⟩]) (.seq (.reg .false [⟨.some 9,.mov (.t 3),.none⟩,⟨.some 10,.bin .eql (.t 9) (.c (.int .i64 1)),.none⟩,⟨.some 11,.mov (.t 10),.none⟩,⟨.some 12,.call (.c (.fn 50 [])) [.c (.str [91,66,50,32,109,32,53,32,40,49,48,32,50,32,51,48,32,52,48,41,93,32,123,32,51,32,32,52,32,125]),.c (.str [91,109,53,66,50,40,49,48,32,50,32,51,48,32,52,48,41,93,10,123,51,32,52,125,10])],.some ((.t 11),.true)⟩,⟨.some 13,.pick (.t 11) (.t 12) (.c (.bool .false)),.none⟩,⟨.some 14,.mov (.t 13),.none⟩,⟨.some 15,.call (.c (.fn 50 [])) [.c (.str [91,111,50,32,119,51,32,109,48,32,60,82,32,49,32,50,62,93]),.c (.str [91,119,51,60,82,49,32,50,62,93,10])],.some ((.t 14),.true)⟩,⟨.some 16,.pick (.t 14) (.t 15) (.c (.bool .false)),.none⟩,⟨.some 17,.mov (.t 16),.none⟩,⟨.some 18,.call (.c (.fn 50 [])) [.c (.str []),.c (.str [])],.some ((.t 17),.true)⟩,⟨.some 19,.pick (.t 17) (.t 18) (.c (.bool .false)),.none⟩,⟨.some 0,.mov (.t 19),.none⟩]) .ret)),[.tmp (.t 0)]⟩
theorem e27 : cfn Tryd.prog Tryd.f27 = some c27 := by kernel_rfl
theorem k27 : callable Tryd.prog 27 = true := by kernel_rfl
def c28 : VFn := ⟨15,.seq (.reg .false [⟨.some 2,.mov (.c (.str [])),.none⟩,⟨.some 3,.mov (.c (.int .i64 0)),.none⟩]) (.seq (.seq (.reg .false [⟨.some 6,.mov (.t 0),.none⟩,⟨.some 7,.call (.c (.fn 24 [])) [.t 6],.none⟩,⟨.some 8,.not (.t 7),.none⟩]) (.cond (.t 8) (.seq (.reg .false [⟨.some 2,.mov (.c (.str [])),.none⟩,⟨.some 3,.mov (.c (.int .i64 4)),.none⟩]) .ret) .skip)) (.seq (.reg .false [⟨.some 4,.alloc 87 2 (.agg [.nilp,.nils]),.none⟩]) (.seq (.reg .false [⟨.some 5,.alloc 88 1 .nilfn,.none⟩]) (.seq (.reg .false [⟨.some 9,.mkfn 51 [.t 4,.t 5],.none⟩,⟨.none,.store 1 (.t 5) (.t 9),.none⟩]) (.seq (.reg .false [⟨.some 10,.load .false 1 (.t 5),.none⟩,⟨.some 11,.mov (.t 0),.none⟩,⟨.some 12,.call (.t 10) [.t 11,.c (.str [10])],.none⟩]) (.seq (.reg .false [⟨.some 13,.fldA .true 0 2 (.t 4),.none⟩,⟨.some 14,.call (.c (.fn 56 [])) [.t 13],.none⟩,⟨.some 2,.mov (.t 14),.none⟩,⟨.some 3,.mov (.c (.int .i64 0)),.none⟩]) .ret)))))),[.tmp (.t 2),.tmp (.t 3)]⟩
theorem e28 : cfn Tryd.prog Tryd.f28 = some c28 := by kernel_rfl
theorem k28 : callable Tryd.prog 28 = true := by kernel_rfl
def c29 : VFn := ⟨11,.seq (.reg .false [⟨.some 2,.mov (.c (.str [])),.none⟩,⟨.some 3,.mov (.c (.int .i64 0)),.none⟩]) (.seq (.seq (.reg .false [⟨.some 4,.mov (.t 0),.none⟩,⟨.some 5,.call (.c (.fn 57 [])) [.t 4],.none⟩,⟨.some 6,.not (.t 5),.none⟩]) (.cond (.t 6) (.seq (.reg .false [⟨.some 2,.mov (.c (.str [])),.none⟩,⟨.some 3,.mov (.c (.int .i64 4)),.none⟩]) .ret) .skip)) (.seq (.reg .false [⟨.some 7,.mov (.t 0),.none⟩,⟨.some 8,.mov (.t 0),.none⟩,⟨.some 9,.len .false (.t 8),.none⟩,⟨.some 10,.call (.c (.fn 58 [])) [.t 7,.c (.int .i64 0),.t 9,.c (.str [10])],.none⟩,⟨.some 2,.mov (.t 10),.none⟩,⟨.some 3,.mov (.c (.int .i64 0)),.none⟩]) .ret)),[.tmp (.t 2),.tmp (.t 3)]⟩
theorem e29 : cfn Tryd.prog Tryd.f29 = some c29 := by kernel_rfl
theorem k29 : callable Tryd.prog 29 = true := by kernel_rfl
def c30 : VFn := ⟨23,.seq (.reg .false [⟨.some 2,.mov (.c (.str [])),.none⟩,⟨.some 3,.mov (.c (.int .i64 0)),.none⟩,⟨.some 4,.mov (.c (.int .i64 0)),.none⟩]) (.seq (.reg .false [⟨.some 7,.mov (.t 0),.none⟩,⟨.some 8,.call (.c (.fn 12 [])) [.t 7],.none⟩,⟨.some 6,.mov (.t 8),.none⟩,⟨.some 9,.ext 0 (.t 6),.none⟩,⟨.some 10,.ext 1 (.t 6),.none⟩,⟨.some 11,.ext 2 (.t 6),.none⟩,⟨.some 5,.mov (.t 9),.none⟩,⟨.some 3,.mov (.t 10),.none⟩,⟨.some 4,.mov (.t 11),.none⟩]) (.seq (.seq (.reg .false [⟨.some 12,.mov (.t 4),.none⟩,⟨.some 13,.bin .neq (.t 12) (.c (.int .i64 0)),.none⟩]) (.cond (.t 13) (.seq (.reg .false [⟨.some 14,.mov (.t 3),.none⟩,⟨.some 15,.mov (.t 4),.none⟩,⟨.some 2,.mov (.c (.str [])),.none⟩,⟨.some 3,.mov (.t 14),.none⟩,⟨.some 4,.mov (.t 15),.none⟩]) .ret) .skip)) (.seq (.reg .false [⟨.some 17,.mov (.t 5),.none⟩,⟨.some 18,.call (.c (.fn 28 [])) [.t 17],.none⟩,⟨.some 16,.mov (.t 18),.none⟩,⟨.some 19,.ext 0 (.t 16),.none⟩,⟨.some 20,.ext 1 (.t 16),.none⟩,⟨.some 2,.mov (.t 19),.none⟩,⟨.some 4,.mov (.t 20),.none⟩]) (.seq (.reg .false [⟨.some 21,.mov (.t 2),.none⟩,⟨.some 22,.mov (.t 4),.none⟩,⟨.some 2,.mov (.t 21),.none⟩,⟨.some 3,.mov (.c (.int .i64 0)),.none⟩,⟨.some 4,.mov (.t 22),.none⟩]) .ret)))),[.tmp (.t 2),.tmp (.t 3),.tmp (.t 4)]⟩
theorem e30 : cfn Tryd.prog Tryd.f30 = some c30 := by kernel_rfl
theorem k30 : callable Tryd.prog 30 = true := by kernel_rfl
def c34 : VFn := ⟨58,.seq (.reg .false [⟨.some 2,.mov (.c .nils),.none⟩]) (.seq (.reg .false [⟨.some 3,.mov (.c .nils),.none⟩]) (.seq (.block 0 (.loop (.seq (.seq (.reg .false [⟨.some 4,.mov (.t 0),.none⟩,⟨.some 5,.nilCheck (.t 4),.none⟩,⟨.some 6,.fldA .false 1 1 (.t 5),.none⟩,⟨.some 7,.load .false 1 (.t 6),.none⟩,⟨.some 8,.not (.t 7),.none⟩]) (.cond (.t 8) .skip (.exit 0))) (.block 1 (.block 2 (.seq (.reg .false [⟨.some 11,.mov (.t 0),.none⟩,⟨.some 12,.nilCheck (.t 11),.none⟩,⟨.some 13,.fldA .false 0 1 (.t 12),.none⟩,⟨.some 14,.load .false 1 (.t 13),.none⟩,⟨.some 15,.call (.c (.fn 60 [])) [.t 14,.c (.int .i32 91)],.none⟩,⟨.some 10,.mov (.t 15),.none⟩]) (.cond (.t 10) (.reg .false [⟨.some 16,.mov (.t 3),.none⟩,⟨.some 17,.mov (.t 0),.none⟩,⟨.some 18,.call (.c (.fn 61 [])) [.t 17],.none⟩,⟨.some 19,.bslice 101 1 [.t 18],.none⟩,⟨.some 20,.append 101 1 16 (.t 16) (.t 19),.none⟩,⟨.some 3,.mov (.t 20),.none⟩]) (.seq (.reg .false [⟨.some 22,.mov (.t 0),.none⟩,⟨.some 23,.nilCheck (.t 22),.none⟩,⟨.some 24,.fldA .false 0 1 (.t 23),.none⟩,⟨.some 25,.load .false 1 (.t 24),.none⟩,⟨.some 26,.call (.c (.fn 60 [])) [.t 25,.c (.int .i32 40)],.none⟩,⟨.some 21,.mov (.t 26),.none⟩]) (.cond (.t 21) (.reg .false [⟨.some 27,.mov (.t 3),.none⟩,⟨.some 28,.mov (.t 0),.none⟩,⟨.some 29,.call (.c (.fn 62 [])) [.t 28],.none⟩,⟨.some 30,.bslice 101 1 [.t 29],.none⟩,⟨.some 31,.append 101 1 16 (.t 27) (.t 30),.none⟩,⟨.some 3,.mov (.t 31),.none⟩]) (.seq (.reg .false [⟨.some 33,.mov (.t 0),.none⟩,⟨.some 34,.nilCheck (.t 33),.none⟩,⟨.some 35,.fldA .false 0 1 (.t 34),.none⟩,⟨.some 36,.load .false 1 (.t 35),.none⟩,⟨.some 37,.call (.c (.fn 60 [])) [.t 36,.c (.int .i32 123)],.none⟩,⟨.some 32,.mov (.t 37),.none⟩]) (.cond (.t 32) (.seq (.reg .false [⟨.some 38,.mov (.t 0),.none⟩,⟨.some 39,.call (.c (.fn 63 [])) [.t 38,.c (.int .i32 123)],.none⟩]) (.reg .false [⟨.some 40,.mov (.t 3),.none⟩,⟨.some 41,.mov (.t 0),.none⟩,⟨.some 42,.call (.c (.fn 64 [])) [.t 41,.c (.int .i32 125)],.none⟩,⟨.some 43,.more (.mkI 105) [.t 42],.none⟩,⟨.some 44,.bslice 101 1 [.t 43],.none⟩,⟨.some 45,.append 101 1 16 (.t 40) (.t 44),.none⟩,⟨.some 3,.mov (.t 45),.none⟩])) (.seq (.reg .false [⟨.some 47,.mov (.t 0),.none⟩,⟨.some 48,.nilCheck (.t 47),.none⟩,⟨.some 49,.fldA .false 0 1 (.t 48),.none⟩,⟨.some 50,.load .false 1 (.t 49),.none⟩,⟨.some 51,.call (.c (.fn 60 [])) [.t 50,.c (.int .i32 60)],.none⟩,⟨.some 46,.mov (.t 51),.none⟩]) (.cond (.t 46) (.reg .false [⟨.some 52,.mov (.t 3),.none⟩,⟨.some 53,.mov (.t 0),.none⟩,⟨.some 54,.call (.c (.fn 65 [])) [.t 53],.none⟩,⟨.some 55,.bslice 101 1 [.t 54],.none⟩,⟨.some 56,.append 101 1 16 (.t 52) (.t 55),.none⟩,⟨.some 3,.mov (.t 56),.none⟩]) (.seq (.reg .false [⟨.some 9,.mov (.t 3),.none⟩,⟨.some 2,.mov (.t 9),.none⟩]) .ret)))))))))))))) (.seq (.reg .false [⟨.some 57,.mov (.t 3),.none⟩,⟨.some 2,.mov (.t 57),.none⟩]) .ret))),[.tmp (.t 2)]⟩
theorem e34 : cfn Tryd.prog Tryd.f34 = some c34 := by kernel_rfl
theorem k34 : callable Tryd.prog 34 = true := by kernel_rfl
def c35 : VFn := ⟨46,.seq (.reg .false [⟨.some 2,.mov (.c .nils),.none⟩]) (.seq (.reg .false [⟨.some 3,.mov (.c .nils),.none⟩]) (.seq (.seq (.reg .false [⟨.some 10,.mov (.t 0),.none⟩,⟨.some 11,.len .false (.t 10),.none⟩,⟨.some 12,.mov (.c (.int .i64 0)),.none⟩]) (.block 0 (.loop (.seq (.reg .false [⟨.some 13,.bin .lss (.t 12) (.t 11),.none⟩]) (.seq (.cond (.t 13) .skip (.exit 0)) (.seq (.block 1 (.seq (.reg .false [⟨.some 14,.idxA 1 (.t 10) (.t 12),.none⟩,⟨.some 15,.load .false 1 (.t 14),.none⟩,⟨.some 5,.mov (.t 15),.none⟩]) (.seq (.reg .false [⟨.some 16,.mov (.t 5),.none⟩,⟨.some 17,.more (.inv [(105,159),(109,160),(140,161),(142,162)]) [.t 16],.none⟩,⟨.some 6,.alloc 37 20 (.agg [.int .i64 0,.int .i64 0,.int .i64 0,.int .i64 0,.int .i64 0,.int .i64 0,.int .i64 0,.int .i64 0,.int .i64 0,.int .i64 0,.int .i64 0,.int .i64 0,.int .i64 0,.int .i64 0,.int .i64 0,.int .i64 0,.nils,.int .i64 0,.int .i64 0,.int .i64 0]),.none⟩,⟨.none,.store 20 (.t 6) (.t 17),.none⟩]) (.seq (.reg .false [⟨.some 19,.mov (.t 5),.none⟩,⟨.some 20,.more (.tas 109 .true (.agg [.int .i64 0,.int .i64 0,.int .i64 0,.int .i64 0,.int .i64 0,.int .i64 0,.int .i64 0,.int .i64 0,.int .i64 0,.int .i64 0,.int .i64 0,.int .i64 0,.nils])) [.t 19],.none⟩,⟨.some 18,.mov (.t 20),.none⟩,⟨.some 21,.ext 0 (.t 18),.none⟩,⟨.some 22,.ext 1 (.t 18),.none⟩,⟨.some 7,.alloc 109 13 (.agg [.int .i64 0,.int .i64 0,.int .i64 0,.int .i64 0,.int .i64 0,.int .i64 0,.int .i64 0,.int .i64 0,.int .i64 0,.int .i64 0,.int .i64 0,.int .i64 0,.nils]),.none⟩,⟨.none,.store 13 (.t 7) (.t 21),.none⟩,⟨.some 8,.mov (.t 22),.none⟩]) (.seq (.seq (.reg .false [⟨.some 23,.mov (.t 8),.none⟩,⟨.some 24,.not (.t 23),.none⟩]) (.cond (.t 24) (.seq (.reg .false [⟨.some 25,.mov (.t 3),.none⟩,⟨.some 26,.load .true 20 (.t 6),.none⟩,⟨.some 27,.bslice 37 20 [.t 26],.none⟩,⟨.some 28,.append 37 20 176 (.t 25) (.t 27),.none⟩,⟨.some 3,.mov (.t 28),.none⟩]) (.exit 1)) .skip)) (.seq (.reg .false [⟨.some 29,.fldA .false 12 1 (.t 7),.none⟩,⟨.some 30,.load .false 1 (.t 29),.none⟩,⟨.some 31,.call (.c (.fn 35 [])) [.t 30],.none⟩,⟨.some 9,.mov (.t 31),.none⟩]) (.seq (.reg .false [⟨.some 32,.fldA .false 1 1 (.t 6),.none⟩,⟨.some 33,.load .false 1 (.t 32),.none⟩,⟨.some 34,.mov (.t 9),.none⟩,⟨.some 35,.len .false (.t 34),.none⟩,⟨.some 36,.bin .add (.t 33) (.t 35),.none⟩,⟨.some 37,.fldA .false 1 1 (.t 6),.none⟩,⟨.none,.store 1 (.t 37) (.t 36),.none⟩]) (.reg .false [⟨.some 38,.mov (.t 3),.none⟩,⟨.some 39,.load .true 20 (.t 6),.none⟩,⟨.some 40,.bslice 37 20 [.t 39],.none⟩,⟨.some 41,.append 37 20 176 (.t 38) (.t 40),.none⟩,⟨.some 42,.mov (.t 9),.none⟩,⟨.some 43,.append 37 20 176 (.t 41) (.t 42),.none⟩,⟨.some 3,.mov (.t 43),.none⟩])))))))) (.reg .false [⟨.some 44,.bin .add (.t 12) (.c (.int .i64 1)),.none⟩,⟨.some 12,.mov (.t 44),.none⟩]))))))) (.seq (.reg .false [⟨.some 45,.mov (.t 3),.none⟩,⟨.some 2,.mov (.t 45),.none⟩]) .ret))),[.tmp (.t 2)]⟩
theorem e35 : cfn Tryd.prog Tryd.f35 = some c35 := by kernel_rfl
theorem k35 : callable Tryd.prog 35 = true := by kernel_rfl
def c38 : VFn := ⟨87,.seq (.reg .false [⟨.some 2,.box 37 20 (.t 0),.none⟩,⟨.some 3,.box 37 20 (.t 1),.none⟩,⟨.some 4,.mov (.c (.bool .false)),.none⟩]) (.seq (.seq (.reg .false [⟨.some 6,.fldA .false 0 1 (.t 2),.none⟩,⟨.some 7,.load .false 1 (.t 6),.none⟩,⟨.some 8,.fldA .false 0 1 (.t 3),.none⟩,⟨.some 9,.load .false 1 (.t 8),.none⟩,⟨.some 10,.bin .neq (.t 7) (.t 9),.none⟩,⟨.some 11,.mov (.t 10),.none⟩,⟨.some 12,.fldA .false 1 1 (.t 2),.some ((.t 11),.false)⟩,⟨.some 13,.load .false 1 (.t 12),.some ((.t 11),.false)⟩,⟨.some 14,.fldA .false 1 1 (.t 3),.some ((.t 11),.false)⟩,⟨.some 15,.load .false 1 (.t 14),.some ((.t 11),.false)⟩,⟨.some 16,.bin .neq (.t 13) (.t 15),.some ((.t 11),.false)⟩,⟨.some 17,.pick (.t 11) (.c (.bool .true)) (.t 16),.none⟩,⟨.some 18,.mov (.t 17),.none⟩,⟨.some 19,.fldA .true 2 12 (.t 2),.some ((.t 18),.false)⟩,⟨.some 20,.load .true 12 (.t 19),.some ((.t 18),.false)⟩,⟨.some 21,.fldA .true 2 12 (.t 3),.some ((.t 18),.false)⟩,⟨.some 22,.load .true 12 (.t 21),.some ((.t 18),.false)⟩,⟨.some 23,.eqS .true [0,0,0,0,0,0,0,0,0,0,0,0] (.t 20) (.t 22),.some ((.t 18),.false)⟩,⟨.some 24,.pick (.t 18) (.c (.bool .true)) (.t 23),.none⟩,⟨.some 25,.mov (.t 24),.none⟩,⟨.some 26,.fldA .false 14 1 (.t 2),.some ((.t 25),.false)⟩,⟨.some 27,.load .false 1 (.t 26),.some ((.t 25),.false)⟩,⟨.some 28,.fldA .false 14 1 (.t 3),.some ((.t 25),.false)⟩,⟨.some 29,.load .false 1 (.t 28),.some ((.t 25),.false)⟩,⟨.some 30,.bin .neq (.t 27) (.t 29),.some ((.t 25),.false)⟩,⟨.some 31,.pick (.t 25) (.c (.bool .true)) (.t 30),.none⟩,⟨.some 32,.mov (.t 31),.none⟩,⟨.some 33,.fldA .false 15 1 (.t 2),.some ((.t 32),.false)⟩,⟨.some 34,.load .false 1 (.t 33),.some ((.t 32),.false)⟩,⟨.some 35,.fldA .false 15 1 (.t 3),.some ((.t 32),.false)⟩,⟨.some 36,.load .false 1 (.t 35),.some ((.t 32),.false)⟩,⟨.some 37,.bin .neq (.t 34) (.t 36),.some ((.t 32),.false)⟩,⟨.some 38,.pick (.t 32) (.c (.bool .true)) (.t 37),.none⟩,⟨.some 39,.mov (.t 38),.none⟩,⟨.some 40,.fldA .false 17 1 (.t 2),.some ((.t 39),.false)⟩,⟨.some 41,.load .false 1 (.t 40),.some ((.t 39),.false)⟩,⟨.some 42,.fldA .false 17 1 (.t 3),.some ((.t 39),.false)⟩,⟨.some 43,.load .false 1 (.t 42),.some ((.t 39),.false)⟩,⟨.some 44,.bin .neq (.t 41) (.t 43),.some ((.t 39),.false)⟩,⟨.some 45,.pick (.t 39) (.c (.bool .true)) (.t 44),.none⟩,⟨.some 46,.mov (.t 45),.none⟩,⟨.some 47,.fldA .false 18 1 (.t 2),.some ((.t 46),.false)⟩,⟨.some 48,.load .false 1 (.t 47),.some ((.t 46),.false)⟩,⟨.some 49,.fldA .false 18 1 (.t 3),.some ((.t 46),.false)⟩,⟨.some 50,.load .false 1 (.t 49),.some ((.t 46),.false)⟩,⟨.some 51,.bin .neq (.t 48) (.t 50),.some ((.t 46),.false)⟩,⟨.some 52,.pick (.t 46) (.c (.bool .true)) (.t 51),.none⟩,⟨.some 53,.mov (.t 52),.none⟩,⟨.some 54,.fldA .false 19 1 (.t 2),.some ((.t 53),.false)⟩,⟨.some 55,.load .false 1 (.t 54),.some ((.t 53),.false)⟩,⟨.some 56,.fldA .false 19 1 (.t 3),.some ((.t 53),.false)⟩,⟨.some 57,.load .false 1 (.t 56),.some ((.t 53),.false)⟩,⟨.some 58,.bin .neq (.t 55) (.t 57),.some ((.t 53),.false)⟩,⟨.some 59,.pick (.t 53) (.c (.bool .true)) (.t 58),.none⟩,⟨.some 60,.mov (.t 59),.none⟩,⟨.some 61,.fldA .false 16 1 (.t 2),.some ((.t 60),.false)⟩,⟨.some 62,.load .false 1 (.t 61),.some ((.t 60),.false)⟩,⟨.some 63,.len .false (.t 62),.some ((.t 60),.false)⟩,⟨.some 64,.fldA .false 16 1 (.t 3),.some ((.t 60),.false)⟩,⟨.some 65,.load .false 1 (.t 64),.some ((.t 60),.false)⟩,⟨.some 66,.len .false (.t 65),.some ((.t 60),.false)⟩,⟨.some 67,.bin .neq (.t 63) (.t 66),.some ((.t 60),.false)⟩,⟨.some 68,.pick (.t 60) (.c (.bool .true)) (.t 67),.none⟩]) (.cond (.t 68) (.seq (.reg .false [⟨.some 4,.mov (.c (.bool .false)),.none⟩]) .ret) .skip)) (.seq (.seq (.reg .false [⟨.some 5,.mov (.c (.int .i64 0)),.none⟩]) (.block 0 (.loop (.seq (.seq (.reg .false [⟨.some 69,.mov (.t 5),.none⟩,⟨.some 70,.fldA .false 16 1 (.t 2),.none⟩,⟨.some 71,.load .false 1 (.t 70),.none⟩,⟨.some 72,.len .false (.t 71),.none⟩,⟨.some 73,.bin .lss (.t 69) (.t 72),.none⟩]) (.cond (.t 73) .skip (.exit 0))) (.seq (.block 1 (.seq (.reg .true [⟨.some 76,.fldA .false 16 1 (.t 2),.none⟩,⟨.some 77,.load .false 1 (.t 76),.none⟩,⟨.some 78,.mov (.t 5),.none⟩,⟨.some 79,.idxA 1 (.t 77) (.t 78),.none⟩,⟨.some 80,.load .false 1 (.t 79),.none⟩,⟨.some 81,.fldA .false 16 1 (.t 3),.none⟩,⟨.some 82,.load .false 1 (.t 81),.none⟩,⟨.some 83,.mov (.t 5),.none⟩,⟨.some 84,.idxA 1 (.t 82) (.t 83),.none⟩,⟨.some 85,.load .false 1 (.t 84),.none⟩,⟨.some 86,.bin .neq (.t 80) (.t 85),.none⟩]) (.cond (.t 86) (.seq (.reg .false [⟨.some 4,.mov (.c (.bool .false)),.none⟩]) .ret) .skip))) (.reg .false [⟨.some 74,.mov (.t 5),.none⟩,⟨.some 75,.bin .add (.t 74) (.c (.int .i64 1)),.none⟩,⟨.some 5,.mov (.t 75),.none⟩])))))) (.seq (.reg .false [⟨.some 4,.mov (.c (.bool .true)),.none⟩]) .ret))),[.tmp (.t 4)]⟩
theorem e38 : cfn Tryd.prog Tryd.f38 = some c38 := by kernel_rfl
theorem k38 : callable Tryd.prog 38 = true := by kernel_rfl
def c39 : VFn := ⟨22,.seq (.reg .false [⟨.some 2,.mov (.c (.int .i64 0)),.none⟩,⟨.some 3,.mov (.c (.bool .false)),.none⟩]) (.seq (.seq (.reg .false [⟨.some 6,.mov (.t 0),.none⟩,⟨.some 7,.rngS .false (.t 6),.none⟩]) (.block 0 (.loop (.seq (.reg .false [⟨.some 8,.nxtS (.t 7),.none⟩,⟨.some 9,.ext 0 (.t 8),.none⟩]) (.seq (.cond (.t 9) .skip (.exit 0)) (.block 1 (.seq (.reg .false [⟨.some 10,.ext 1 (.t 8),.none⟩,⟨.some 11,.ext 2 (.t 8),.none⟩,⟨.some 4,.mov (.t 10),.none⟩,⟨.some 5,.mov (.t 11),.none⟩]) (.seq (.reg .false [⟨.some 12,.mov (.t 5),.none⟩,⟨.some 13,.bin .eql (.t 12) (.c (.int .i32 65533)),.none⟩,⟨.some 14,.mov (.t 13),.none⟩,⟨.some 15,.mov (.t 0),.some ((.t 14),.true)⟩,⟨.some 16,.mov (.t 4),.some ((.t 14),.true)⟩,⟨.some 17,.sliceS (.t 15) (.some (.t 16)) .none,.some ((.t 14),.true)⟩,⟨.some 18,.call (.c (.fn 71 [])) [.t 17,.c (.str [239,191,189])],.some ((.t 14),.true)⟩,⟨.some 19,.not (.t 18),.some ((.t 14),.true)⟩,⟨.some 20,.pick (.t 14) (.t 19) (.c (.bool .false)),.none⟩]) (.cond (.t 20) (.seq (.reg .false [⟨.some 21,.mov (.t 4),.none⟩,⟨.some 2,.mov (.t 21),.none⟩,⟨.some 3,.mov (.c (.bool .false)),.none⟩]) .ret) .skip))))))))) (.seq (.reg .false [⟨.some 2,.mov (.c (.int .i64 0)),.none⟩,⟨.some 3,.mov (.c (.bool .true)),.none⟩]) .ret)),[.tmp (.t 2),.tmp (.t 3)]⟩
theorem e39 : cfn Tryd.prog Tryd.f39 = some c39 := by kernel_rfl
theorem k39 : callable Tryd.prog 39 = true := by kernel_rfl
def c40 : VFn := ⟨4,.seq (.reg .false [⟨.some 1,.box 9 1 (.t 0),.none⟩,⟨.some 2,.mov (.c .nilfn),.none⟩]) (.seq (.reg .false [⟨.some 3,.mkfn 72 [.t 1],.none⟩,⟨.some 2,.mov (.t 3),.none⟩]) .ret),[.tmp (.t 2)]⟩
theorem e40 : cfn Tryd.prog Tryd.f40 = some c40 := by kernel_rfl
theorem k40 : callable Tryd.prog 40 = true := by kernel_rfl
def c49 : VFn := ⟨136,.seq (.reg .false [⟨.some 1,.box 37 20 (.t 0),.none⟩,⟨.some 2,.mov (.c (.bool .false)),.none⟩]) (.seq (.reg .false [⟨.some 6,.build [.int .i64 0,.int .i64 0] [(0,(1,(.c (.int .i64 1)))),(1,(1,(.c (.int .i64 1099511627776))))],.none⟩,⟨.some 3,.alloc 125 2 (.agg [.int .i64 0,.int .i64 0]),.none⟩,⟨.none,.store 2 (.t 3) (.t 6),.none⟩]) (.seq (.reg .false [⟨.some 7,.fldA .true 2 12 (.t 1),.none⟩,⟨.some 8,.load .true 12 (.t 7),.none⟩,⟨.some 9,.build [.int .i64 0,.int .i64 0,.int .i64 0,.int .i64 0,.int .i64 0,.int .i64 0,.int .i64 0,.int .i64 0,.int .i64 0,.int .i64 0,.int .i64 0,.int .i64 0] [],.none⟩,⟨.some 10,.eqS .false [0,0,0,0,0,0,0,0,0,0,0,0] (.t 8) (.t 9),.none⟩,⟨.some 4,.mov (.t 10),.none⟩]) (.seq (.reg .false [⟨.some 11,.fldA .false 14 1 (.t 1),.none⟩,⟨.some 12,.load .false 1 (.t 11),.none⟩,⟨.some 13,.bin .eql (.t 12) (.c (.int .i64 0)),.none⟩,⟨.some 14,.mov (.t 13),.none⟩,⟨.some 15,.fldA .false 15 1 (.t 1),.some ((.t 14),.true)⟩,⟨.some 16,.load .false 1 (.t 15),.some ((.t 14),.true)⟩,⟨.some 17,.bin .eql (.t 16) (.c (.int .i64 0)),.some ((.t 14),.true)⟩,⟨.some 18,.pick (.t 14) (.t 17) (.c (.bool .false)),.none⟩,⟨.some 19,.mov (.t 18),.none⟩,⟨.some 20,.fldA .false 16 1 (.t 1),.some ((.t 19),.true)⟩,⟨.some 21,.load .false 1 (.t 20),.some ((.t 19),.true)⟩,⟨.some 22,.len .false (.t 21),.some ((.t 19),.true)⟩,⟨.some 23,.bin .eql (.t 22) (.c (.int .i64 0)),.some ((.t 19),.true)⟩,⟨.some 24,.pick (.t 19) (.t 23) (.c (.bool .false)),.none⟩,⟨.some 5,.mov (.t 24),.none⟩]) (.seq (.seq (.reg .false [⟨.some 25,.fldA .false 0 1 (.t 1),.none⟩,⟨.some 26,.load .false 1 (.t 25),.none⟩]) (.block 0 (.seq (.reg .false [⟨.some 28,.bin .eql (.t 26) (.c (.int .i64 1)),.none⟩,⟨.some 27,.mov (.t 28),.none⟩]) (.cond (.t 27) (.seq (.reg .false [⟨.some 29,.mov (.t 5),.none⟩,⟨.some 30,.mov (.t 29),.none⟩,⟨.some 31,.fldA .false 18 1 (.t 1),.some ((.t 30),.true)⟩,⟨.some 32,.load .false 1 (.t 31),.some ((.t 30),.true)⟩,⟨.some 33,.bin .eql (.t 32) (.c (.int .i64 0)),.some ((.t 30),.true)⟩,⟨.some 34,.pick (.t 30) (.t 33) (.c (.bool .false)),.none⟩,⟨.some 35,.mov (.t 34),.none⟩,⟨.some 36,.fldA .false 19 1 (.t 1),.some ((.t 35),.true)⟩,⟨.some 37,.load .false 1 (.t 36),.some ((.t 35),.true)⟩,⟨.some 38,.bin .eql (.t 37) (.c (.int .i64 0)),.some ((.t 35),.true)⟩,⟨.some 39,.pick (.t 35) (.t 38) (.c (.bool .false)),.none⟩,⟨.some 40,.mov (.t 39),.none⟩,⟨.some 41,.fldA .false 17 1 (.t 1),.some ((.t 40),.true)⟩,⟨.some 42,.load .false 1 (.t 41),.some ((.t 40),.true)⟩,⟨.some 43,.bin .eql (.t 42) (.c (.int .i64 0)),.some ((.t 40),.true)⟩,⟨.some 44,.pick (.t 40) (.t 43) (.c (.bool .false)),.none⟩,⟨.some 45,.mov (.t 44),.none⟩,⟨.some 46,.fldA .true 2 12 (.t 1),.some ((.t 45),.true)⟩,⟨.some 47,.load .true 12 (.t 46),.some ((.t 45),.true)⟩,⟨.some 48,.call (.c (.fn 82 [])) [.t 47],.some ((.t 45),.true)⟩,⟨.some 49,.pick (.t 45) (.t 48) (.c (.bool .false)),.none⟩,⟨.some 2,.mov (.t 49),.none⟩]) .ret) (.seq (.reg .false [⟨.some 51,.bin .eql (.t 26) (.c (.int .i64 2)),.none⟩,⟨.some 50,.mov (.t 51),.none⟩]) (.cond (.t 50) (.seq (.reg .false [⟨.some 52,.mov (.t 4),.none⟩,⟨.some 53,.mov (.t 52),.none⟩,⟨.some 54,.fldA .false 18 1 (.t 1),.some ((.t 53),.true)⟩,⟨.some 55,.load .false 1 (.t 54),.some ((.t 53),.true)⟩,⟨.some 56,.bin .eql (.t 55) (.c (.int .i64 0)),.some ((.t 53),.true)⟩,⟨.some 57,.pick (.t 53) (.t 56) (.c (.bool .false)),.none⟩,⟨.some 58,.mov (.t 57),.none⟩,⟨.some 59,.fldA .false 19 1 (.t 1),.some ((.t 58),.true)⟩,⟨.some 60,.load .false 1 (.t 59),.some ((.t 58),.true)⟩,⟨.some 61,.bin .eql (.t 60) (.c (.int .i64 0)),.some ((.t 58),.true)⟩,⟨.some 62,.pick (.t 58) (.t 61) (.c (.bool .false)),.none⟩,⟨.some 63,.mov (.t 62),.none⟩,⟨.some 64,.fldA .false 17 1 (.t 1),.some ((.t 63),.true)⟩,⟨.some 65,.load .false 1 (.t 64),.some ((.t 63),.true)⟩,⟨.some 66,.bin .eql (.t 65) (.c (.int .i64 0)),.some ((.t 63),.true)⟩,⟨.some 67,.pick (.t 63) (.t 66) (.c (.bool .false)),.none⟩,⟨.some 68,.mov (.t 67),.none⟩,⟨.some 69,.load .true 2 (.t 3),.some ((.t 68),.true)⟩,⟨.some 70,.fldA .false 14 1 (.t 1),.some ((.t 68),.true)⟩,⟨.some 71,.load .false 1 (.t 70),.some ((.t 68),.true)⟩,⟨.some 72,.bslice 3 1 [.t 71],.some ((.t 68),.true)⟩,⟨.some 73,.call (.c (.fn 83 [])) [.t 69,.t 72],.some ((.t 68),.true)⟩,⟨.some 74,.pick (.t 68) (.t 73) (.c (.bool .false)),.none⟩,⟨.some 75,.mov (.t 74),.none⟩,⟨.some 76,.load .true 2 (.t 3),.some ((.t 75),.true)⟩,⟨.some 77,.fldA .false 16 1 (.t 1),.some ((.t 75),.true)⟩,⟨.some 78,.load .false 1 (.t 77),.some ((.t 75),.true)⟩,⟨.some 79,.call (.c (.fn 83 [])) [.t 76,.t 78],.some ((.t 75),.true)⟩,⟨.some 80,.pick (.t 75) (.t 79) (.c (.bool .false)),.none⟩,⟨.some 81,.mov (.t 80),.none⟩,⟨.some 82,.build [.int .i64 0,.int .i64 0] [(0,(1,(.c (.int .i64 0)))),(1,(1,(.c (.int .i64 1099511627776))))],.some ((.t 81),.true)⟩,⟨.some 83,.fldA .false 15 1 (.t 1),.some ((.t 81),.true)⟩,⟨.some 84,.load .false 1 (.t 83),.some ((.t 81),.true)⟩,⟨.some 85,.bslice 3 1 [.t 84],.some ((.t 81),.true)⟩,⟨.some 86,.call (.c (.fn 83 [])) [.t 82,.t 85],.some ((.t 81),.true)⟩,⟨.some 87,.pick (.t 81) (.t 86) (.c (.bool .false)),.none⟩,⟨.some 88,.mov (.t 87),.none⟩,⟨.some 89,.fldA .false 16 1 (.t 1),.some ((.t 88),.true)⟩,⟨.some 90,.load .false 1 (.t 89),.some ((.t 88),.true)⟩,⟨.some 91,.len .false (.t 90),.some ((.t 88),.true)⟩,⟨.some 92,.bin .gtr (.t 91) (.c (.int .i64 0)),.some ((.t 88),.true)⟩,⟨.some 93,.pick (.t 88) (.t 92) (.c (.bool .false)),.none⟩,⟨.some 2,.mov (.t 93),.none⟩]) .ret) (.seq (.reg .false [⟨.some 95,.bin .eql (.t 26) (.c (.int .i64 3)),.none⟩,⟨.some 94,.mov (.t 95),.none⟩]) (.cond (.t 94) (.seq (.reg .false [⟨.some 96,.mov (.t 4),.none⟩,⟨.some 97,.mov (.t 96),.none⟩,⟨.some 98,.mov (.t 5),.some ((.t 97),.true)⟩,⟨.some 99,.pick (.t 97) (.t 98) (.c (.bool .false)),.none⟩,⟨.some 100,.mov (.t 99),.none⟩,⟨.some 101,.fldA .false 17 1 (.t 1),.some ((.t 100),.true)⟩,⟨.some 102,.load .false 1 (.t 101),.some ((.t 100),.true)⟩,⟨.some 103,.bin .eql (.t 102) (.c (.int .i64 0)),.some ((.t 100),.true)⟩,⟨.some 104,.pick (.t 100) (.t 103) (.c (.bool .false)),.none⟩,⟨.some 105,.mov (.t 104),.none⟩,⟨.some 106,.load .true 2 (.t 3),.some ((.t 105),.true)⟩,⟨.some 107,.fldA .false 18 1 (.t 1),.some ((.t 105),.true)⟩,⟨.some 108,.load .false 1 (.t 107),.some ((.t 105),.true)⟩,⟨.some 109,.fldA .false 19 1 (.t 1),.some ((.t 105),.true)⟩,⟨.some 110,.load .false 1 (.t 109),.some ((.t 105),.true)⟩,⟨.some 111,.bslice 3 1 [.t 108,.t 110],.some ((.t 105),.true)⟩,⟨.some 112,.call (.c (.fn 83 [])) [.t 106,.t 111],.some ((.t 105),.true)⟩,⟨.some 113,.pick (.t 105) (.t 112) (.c (.bool .false)),.none⟩,⟨.some 2,.mov (.t 113),.none⟩]) .ret) (.seq (.reg .false [⟨.some 115,.bin .eql (.t 26) (.c (.int .i64 4)),.none⟩,⟨.some 114,.mov (.t 115),.none⟩]) (.cond (.t 114) (.seq (.reg .false [⟨.some 116,.mov (.t 4),.none⟩,⟨.some 117,.mov (.t 116),.none⟩,⟨.some 118,.mov (.t 5),.some ((.t 117),.true)⟩,⟨.some 119,.pick (.t 117) (.t 118) (.c (.bool .false)),.none⟩,⟨.some 120,.mov (.t 119),.none⟩,⟨.some 121,.load .true 2 (.t 3),.some ((.t 120),.true)⟩,⟨.some 122,.fldA .false 18 1 (.t 1),.some ((.t 120),.true)⟩,⟨.some 123,.load .false 1 (.t 122),.some ((.t 120),.true)⟩,⟨.some 124,.fldA .false 19 1 (.t 1),.some ((.t 120),.true)⟩,⟨.some 125,.load .false 1 (.t 124),.some ((.t 120),.true)⟩,⟨.some 126,.bslice 3 1 [.t 123,.t 125],.some ((.t 120),.true)⟩,⟨.some 127,.call (.c (.fn 83 [])) [.t 121,.t 126],.some ((.t 120),.true)⟩,⟨.some 128,.pick (.t 120) (.t 127) (.c (.bool .false)),.none⟩,⟨.some 129,.mov (.t 128),.none⟩,⟨.some 130,.build [.int .i64 0,.int .i64 0] [(0,(1,(.c (.int .i64 1)))),(1,(1,(.c (.int .i64 2))))],.some ((.t 129),.true)⟩,⟨.some 131,.fldA .false 17 1 (.t 1),.some ((.t 129),.true)⟩,⟨.some 132,.load .false 1 (.t 131),.some ((.t 129),.true)⟩,⟨.some 133,.bslice 3 1 [.t 132],.some ((.t 129),.true)⟩,⟨.some 134,.call (.c (.fn 83 [])) [.t 130,.t 133],.some ((.t 129),.true)⟩,⟨.some 135,.pick (.t 129) (.t 134) (.c (.bool .false)),.none⟩,⟨.some 2,.mov (.t 135),.none⟩]) .ret) .skip)))))))))) (.seq (.reg .false [⟨.some 2,.mov (.c (.bool .false)),.none⟩]) .ret))))),[.tmp (.t 2)]⟩
theorem e49 : cfn Tryd.prog Tryd.f49 = some c49 := by kernel_rfl
theorem k49 : callable Tryd.prog 49 = true := by kernel_rfl
def c50 : VFn := ⟨25,.seq (.reg .false [⟨.some 4,.mov (.c (.bool .false)),.none⟩]) (.seq (.reg .false [⟨.some 9,.mov (.t 0),.none⟩,⟨.some 10,.call (.c (.fn 30 [])) [.t 9],.none⟩,⟨.some 8,.mov (.t 10),.none⟩,⟨.some 11,.ext 0 (.t 8),.none⟩,⟨.some 12,.ext 1 (.t 8),.none⟩,⟨.some 13,.ext 2 (.t 8),.none⟩,⟨.some 5,.mov (.t 11),.none⟩,⟨.some 6,.mov (.t 12),.none⟩,⟨.some 7,.mov (.t 13),.none⟩]) (.seq (.reg .false [⟨.some 14,.mov (.t 5),.none⟩,⟨.some 15,.mov (.t 1),.none⟩,⟨.some 16,.bin .eql (.t 14) (.t 15),.none⟩,⟨.some 17,.mov (.t 16),.none⟩,⟨.some 18,.mov (.t 6),.some ((.t 17),.true)⟩,⟨.some 19,.bin .eql (.t 18) (.c (.int .i64 0)),.some ((.t 17),.true)⟩,⟨.some 20,.pick (.t 17) (.t 19) (.c (.bool .false)),.none⟩,⟨.some 21,.mov (.t 20),.none⟩,⟨.some 22,.mov (.t 7),.some ((.t 21),.true)⟩,⟨.some 23,.bin .eql (.t 22) (.c (.int .i64 0)),.some ((.t 21),.true)⟩,⟨.some 24,.pick (.t 21) (.t 23) (.c (.bool .false)),.none⟩,⟨.some 4,.mov (.t 24),.none⟩]) .ret)),[.tmp (.t 4)]⟩
theorem e50 : cfn Tryd.prog Tryd.f50 = some c50 := by kernel_rfl
theorem k50 : callable Tryd.prog 50 = true := by kernel_rfl
def c51 : VFn := ⟨36,.block 0 (.loop (.seq (.seq (.reg .false [⟨.some 7,.mov (.t 0),.none⟩,⟨.some 8,.len .false (.t 7),.none⟩,⟨.some 9,.bin .gtr (.t 8) (.c (.int .i64 0)),.none⟩]) (.cond (.t 9) .skip (.exit 0))) (.block 1 (.seq (.reg .false [⟨.some 10,.mov (.t 0),.none⟩,⟨.some 11,.idxA 20 (.t 10) (.c (.int .i64 0)),.none⟩,⟨.some 12,.load .true 20 (.t 11),.none⟩,⟨.some 6,.alloc 37 20 (.agg [.int .i64 0,.int .i64 0,.int .i64 0,.int .i64 0,.int .i64 0,.int .i64 0,.int .i64 0,.int .i64 0,.int .i64 0,.int .i64 0,.int .i64 0,.int .i64 0,.int .i64 0,.int .i64 0,.int .i64 0,.int .i64 0,.nils,.int .i64 0,.int .i64 0,.int .i64 0]),.none⟩,⟨.none,.store 20 (.t 6) (.t 12),.none⟩]) (.seq (.seq (.reg .false [⟨.some 13,.fldA .false 0 1 (.t 6),.none⟩,⟨.some 14,.load .false 1 (.t 13),.none⟩,⟨.some 15,.bin .eql (.t 14) (.c (.int .i64 1)),.none⟩]) (.cond (.t 15) (.seq (.reg .false [⟨.some 16,.fldA .true 2 12 (.t 6),.none⟩,⟨.some 17,.load .true 12 (.t 16),.none⟩,⟨.some 18,.call (.c (.fn 52 [])) [.t 2,.t 17],.none⟩]) (.seq (.regL [⟨.some 19,.load .false 1 (.t 3),.none⟩,⟨.some 20,.mov (.t 0),.none⟩,⟨.some 21,.fldA .false 1 1 (.t 6),.none⟩,⟨.some 22,.load .false 1 (.t 21),.none⟩,⟨.some 23,.slice 20 (.t 20) (.some (.c (.int .i64 1))) (.some (.t 22)) .none,.none⟩] [⟨.some 24,.call (.t 19) [.t 23,.c (.str [])],.none⟩]) (.reg .false [⟨.some 25,.fldA .true 0 2 (.t 2),.none⟩,⟨.some 26,.call (.c (.fn 53 [])) [.t 25,.c (.int .u8 93)],.none⟩]))) (.reg .false [⟨.some 27,.load .true 20 (.t 6),.none⟩,⟨.some 28,.call (.c (.fn 54 [])) [.t 2,.t 27],.none⟩]))) (.seq (.reg .false [⟨.some 29,.fldA .true 0 2 (.t 2),.none⟩,⟨.some 30,.mov (.t 1),.none⟩,⟨.some 31,.call (.c (.fn 55 [])) [.t 29,.t 30],.none⟩]) (.reg .false [⟨.some 32,.mov (.t 0),.none⟩,⟨.some 33,.fldA .false 1 1 (.t 6),.none⟩,⟨.some 34,.load .false 1 (.t 33),.none⟩,⟨.some 35,.slice 20 (.t 32) (.some (.t 34)) .none .none,.none⟩,⟨.some 0,.mov (.t 35),.none⟩]))))))),[]⟩
theorem e51 : cfn Tryd.prog Tryd.f51 = some c51 := by kernel_rfl
theorem k51 : callable Tryd.prog 51 = true := by kernel_rfl
def c52 : VFn := ⟨32,.seq (.reg .false [⟨.some 3,.box 34 12 (.t 1),.none⟩]) (.seq (.reg .false [⟨.some 6,.mov (.t 0),.none⟩,⟨.some 7,.nilCheck (.t 6),.none⟩,⟨.some 8,.fldA .true 0 2 (.t 7),.none⟩,⟨.some 9,.call (.c (.fn 53 [])) [.t 8,.c (.int .u8 91)],.none⟩]) (.seq (.reg .false [⟨.some 10,.load .true 12 (.t 3),.none⟩,⟨.some 11,.call (.c (.fn 84 [])) [.t 10],.none⟩,⟨.some 12,.mov (.c (.int .i64 0)),.none⟩]) (.block 0 (.loop (.seq (.reg .false [⟨.some 13,.bin .lss (.t 12) (.c (.int .i64 12)),.none⟩]) (.seq (.cond (.t 13) .skip (.exit 0)) (.seq (.block 1 (.seq (.reg .false [⟨.some 14,.idxV .true 12 3 (.t 11) (.t 12),.none⟩,⟨.some 5,.alloc 129 3 (.agg [.int .u8 0,.int .i64 0,.int .i64 0]),.none⟩,⟨.none,.store 3 (.t 5) (.t 14),.none⟩]) (.seq (.reg .false [⟨.some 15,.fldA .false 1 1 (.t 5),.none⟩,⟨.some 16,.load .false 1 (.t 15),.none⟩,⟨.some 17,.fldA .false 2 1 (.t 5),.none⟩,⟨.some 18,.load .false 1 (.t 17),.none⟩,⟨.some 19,.bin .neq (.t 16) (.t 18),.none⟩]) (.cond (.t 19) (.seq (.regL [⟨.some 20,.mov (.t 0),.none⟩,⟨.some 21,.nilCheck (.t 20),.none⟩,⟨.some 22,.fldA .true 0 2 (.t 21),.none⟩,⟨.some 23,.fldA .false 0 1 (.t 5),.none⟩,⟨.some 24,.load .false 1 (.t 23),.none⟩] [⟨.some 25,.call (.c (.fn 53 [])) [.t 22,.t 24],.none⟩]) (.reg .false [⟨.some 26,.mov (.t 0),.none⟩,⟨.some 27,.fldA .false 1 1 (.t 5),.none⟩,⟨.some 28,.load .false 1 (.t 27),.none⟩,⟨.some 29,.bslice 3 1 [.t 28],.none⟩,⟨.some 30,.call (.c (.fn 85 [])) [.t 26,.t 29],.none⟩])) .skip)))) (.reg .false [⟨.some 31,.bin .add (.t 12) (.c (.int .i64 1)),.none⟩,⟨.some 12,.mov (.t 31),.none⟩])))))))),[]⟩
theorem e52 : cfn Tryd.prog Tryd.f52 = some c52 := by kernel_rfl
theorem k52 : callable Tryd.prog 52 = true := by kernel_rfl
def c53 : VFn := ⟨17,.seq (.reg .false [⟨.some 4,.mov (.c .niliface),.none⟩]) (.seq (.reg .false [⟨.some 5,.mov (.t 0),.none⟩,⟨.some 6,.call (.c (.fn 86 [])) [.t 5],.none⟩]) (.seq (.reg .false [⟨.some 7,.mov (.t 0),.none⟩,⟨.some 8,.mov (.t 0),.none⟩,⟨.some 9,.nilCheck (.t 8),.none⟩,⟨.some 10,.fldA .false 1 1 (.t 9),.none⟩,⟨.some 11,.load .false 1 (.t 10),.none⟩,⟨.some 12,.mov (.t 1),.none⟩,⟨.some 13,.bslice 5 1 [.t 12],.none⟩,⟨.some 14,.append 5 1 1 (.t 11) (.t 13),.none⟩,⟨.some 15,.nilCheck (.t 7),.none⟩,⟨.some 16,.fldA .false 1 1 (.t 15),.none⟩,⟨.none,.store 1 (.t 16) (.t 14),.none⟩]) (.seq (.reg .false [⟨.some 4,.mov (.c .niliface),.none⟩]) .ret))),[.tmp (.t 4)]⟩
theorem e53 : cfn Tryd.prog Tryd.f53 = some c53 := by kernel_rfl
theorem k53 : callable Tryd.prog 53 = true := by kernel_rfl
def c54 : VFn := ⟨65,.seq (.reg .false [⟨.some 3,.box 37 20 (.t 1),.none⟩]) (.seq (.reg .false [⟨.some 4,.fldA .false 0 1 (.t 3),.none⟩,⟨.some 5,.load .false 1 (.t 4),.none⟩]) (.block 0 (.seq (.reg .false [⟨.some 7,.bin .eql (.t 5) (.c (.int .i64 2)),.none⟩,⟨.some 6,.mov (.t 7),.none⟩]) (.cond (.t 6) (.seq (.reg .false [⟨.some 8,.mov (.t 0),.none⟩,⟨.some 9,.nilCheck (.t 8),.none⟩,⟨.some 10,.fldA .true 0 2 (.t 9),.none⟩,⟨.some 11,.call (.c (.fn 53 [])) [.t 10,.c (.int .u8 40)],.none⟩]) (.seq (.reg .false [⟨.some 12,.mov (.t 0),.none⟩,⟨.some 13,.fldA .false 14 1 (.t 3),.none⟩,⟨.some 14,.load .false 1 (.t 13),.none⟩,⟨.some 15,.fldA .false 15 1 (.t 3),.none⟩,⟨.some 16,.load .false 1 (.t 15),.none⟩,⟨.some 17,.bslice 3 1 [.t 14,.t 16],.none⟩,⟨.some 18,.fldA .false 16 1 (.t 3),.none⟩,⟨.some 19,.load .false 1 (.t 18),.none⟩,⟨.some 20,.append 3 1 8 (.t 17) (.t 19),.none⟩,⟨.some 21,.call (.c (.fn 85 [])) [.t 12,.t 20],.none⟩]) (.reg .false [⟨.some 22,.mov (.t 0),.none⟩,⟨.some 23,.nilCheck (.t 22),.none⟩,⟨.some 24,.fldA .true 0 2 (.t 23),.none⟩,⟨.some 25,.call (.c (.fn 53 [])) [.t 24,.c (.int .u8 41)],.none⟩]))) (.seq (.reg .false [⟨.some 27,.bin .eql (.t 5) (.c (.int .i64 3)),.none⟩,⟨.some 26,.mov (.t 27),.none⟩]) (.cond (.t 26) (.seq (.reg .false [⟨.some 28,.mov (.t 0),.none⟩,⟨.some 29,.nilCheck (.t 28),.none⟩,⟨.some 30,.fldA .true 0 2 (.t 29),.none⟩,⟨.some 31,.call (.c (.fn 53 [])) [.t 30,.c (.int .u8 123)],.none⟩]) (.seq (.reg .false [⟨.some 32,.mov (.t 0),.none⟩,⟨.some 33,.fldA .false 18 1 (.t 3),.none⟩,⟨.some 34,.load .false 1 (.t 33),.none⟩,⟨.some 35,.fldA .false 19 1 (.t 3),.none⟩,⟨.some 36,.load .false 1 (.t 35),.none⟩,⟨.some 37,.bslice 3 1 [.t 34,.t 36],.none⟩,⟨.some 38,.call (.c (.fn 85 [])) [.t 32,.t 37],.none⟩]) (.reg .false [⟨.some 39,.mov (.t 0),.none⟩,⟨.some 40,.nilCheck (.t 39),.none⟩,⟨.some 41,.fldA .true 0 2 (.t 40),.none⟩,⟨.some 42,.call (.c (.fn 53 [])) [.t 41,.c (.int .u8 125)],.none⟩]))) (.seq (.reg .false [⟨.some 44,.bin .eql (.t 5) (.c (.int .i64 4)),.none⟩,⟨.some 43,.mov (.t 44),.none⟩]) (.cond (.t 43) (.seq (.regL [⟨.some 45,.mov (.t 0),.none⟩,⟨.some 46,.nilCheck (.t 45),.none⟩,⟨.some 47,.fldA .true 0 2 (.t 46),.none⟩,⟨.some 48,.build [.str [],.str [],.str []] [(1,(1,(.c (.str [76])))),(2,(1,(.c (.str [82]))))],.none⟩,⟨.some 49,.fldA .false 17 1 (.t 3),.none⟩,⟨.some 50,.load .false 1 (.t 49),.none⟩,⟨.some 51,.idxV .false 3 1 (.t 48) (.t 50),.none⟩,⟨.some 52,.bin .add (.c (.str [60])) (.t 51),.none⟩] [⟨.some 53,.call (.c (.fn 55 [])) [.t 47,.t 52],.none⟩]) (.seq (.reg .false [⟨.some 54,.mov (.t 0),.none⟩,⟨.some 55,.fldA .false 18 1 (.t 3),.none⟩,⟨.some 56,.load .false 1 (.t 55),.none⟩,⟨.some 57,.fldA .false 19 1 (.t 3),.none⟩,⟨.some 58,.load .false 1 (.t 57),.none⟩,⟨.some 59,.bslice 3 1 [.t 56,.t 58],.none⟩,⟨.some 60,.call (.c (.fn 85 [])) [.t 54,.t 59],.none⟩]) (.reg .false [⟨.some 61,.mov (.t 0),.none⟩,⟨.some 62,.nilCheck (.t 61),.none⟩,⟨.some 63,.fldA .true 0 2 (.t 62),.none⟩,⟨.some 64,.call (.c (.fn 53 [])) [.t 63,.c (.int .u8 62)],.none⟩]))) .skip)))))))),[]⟩
theorem e54 : cfn Tryd.prog Tryd.f54 = some c54 := by kernel_rfl
theorem k54 : callable Tryd.prog 54 = true := by kernel_rfl
def c55 : VFn := ⟨19,.seq (.reg .false [⟨.some 4,.mov (.c (.int .i64 0)),.none⟩,⟨.some 5,.mov (.c .niliface),.none⟩]) (.seq (.reg .false [⟨.some 6,.mov (.t 0),.none⟩,⟨.some 7,.call (.c (.fn 86 [])) [.t 6],.none⟩]) (.seq (.reg .false [⟨.some 8,.mov (.t 0),.none⟩,⟨.some 9,.mov (.t 0),.none⟩,⟨.some 10,.nilCheck (.t 9),.none⟩,⟨.some 11,.fldA .false 1 1 (.t 10),.none⟩,⟨.some 12,.load .false 1 (.t 11),.none⟩,⟨.some 13,.mov (.t 1),.none⟩,⟨.some 14,.append 5 1 1 (.t 12) (.t 13),.none⟩,⟨.some 15,.nilCheck (.t 8),.none⟩,⟨.some 16,.fldA .false 1 1 (.t 15),.none⟩,⟨.none,.store 1 (.t 16) (.t 14),.none⟩]) (.seq (.reg .false [⟨.some 17,.mov (.t 1),.none⟩,⟨.some 18,.len .true (.t 17),.none⟩,⟨.some 4,.mov (.t 18),.none⟩,⟨.some 5,.mov (.c .niliface),.none⟩]) .ret))),[.tmp (.t 4),.tmp (.t 5)]⟩
theorem e55 : cfn Tryd.prog Tryd.f55 = some c55 := by kernel_rfl
theorem k55 : callable Tryd.prog 55 = true := by kernel_rfl
def c57 : VFn := ⟨20,.seq (.reg .false [⟨.some 2,.mov (.c (.bool .false)),.none⟩]) (.seq (.seq (.reg .false [⟨.some 3,.mov (.c (.int .i64 0)),.none⟩]) (.block 0 (.loop (.seq (.seq (.reg .false [⟨.some 4,.mov (.t 3),.none⟩,⟨.some 5,.mov (.t 0),.none⟩,⟨.some 6,.len .false (.t 5),.none⟩,⟨.some 7,.bin .lss (.t 4) (.t 6),.none⟩]) (.cond (.t 7) .skip (.exit 0))) (.seq (.block 1 (.seq (.reg .false [⟨.some 10,.mov (.t 0),.none⟩,⟨.some 11,.mov (.t 3),.none⟩,⟨.some 12,.idxA 20 (.t 10) (.t 11),.none⟩,⟨.some 13,.load .true 20 (.t 12),.none⟩,⟨.some 14,.call (.c (.fn 87 [])) [.t 13],.none⟩,⟨.some 15,.not (.t 14),.none⟩]) (.cond (.t 15) (.seq (.reg .false [⟨.some 2,.mov (.c (.bool .false)),.none⟩]) .ret) .skip))) (.reg .false [⟨.some 8,.mov (.t 3),.none⟩,⟨.some 9,.bin .add (.t 8) (.c (.int .i64 1)),.none⟩,⟨.some 3,.mov (.t 9),.none⟩])))))) (.seq (.reg .false [⟨.some 16,.mov (.t 0),.none⟩,⟨.some 17,.mov (.t 0),.none⟩,⟨.some 18,.len .false (.t 17),.none⟩,⟨.some 19,.call (.c (.fn 88 [])) [.t 16,.c (.int .i64 0),.t 18],.none⟩,⟨.some 2,.mov (.t 19),.none⟩]) .ret)),[.tmp (.t 2)]⟩
theorem e57 : cfn Tryd.prog Tryd.f57 = some c57 := by kernel_rfl
theorem k57 : callable Tryd.prog 57 = true := by kernel_rfl
def c58 : VFn := ⟨133,.seq (.reg .false [⟨.some 8,.mov (.c (.str [])),.none⟩]) (.seq (.reg .false [⟨.some 9,.mov (.c (.str [])),.none⟩]) (.seq (.block 0 (.loop (.seq (.seq (.reg .false [⟨.some 12,.mov (.t 1),.none⟩,⟨.some 13,.mov (.t 2),.none⟩,⟨.some 14,.bin .lss (.t 12) (.t 13),.none⟩]) (.cond (.t 14) .skip (.exit 0))) (.block 1 (.seq (.reg .false [⟨.some 15,.mov (.t 0),.none⟩,⟨.some 16,.mov (.t 1),.none⟩,⟨.some 17,.idxA 20 (.t 15) (.t 16),.none⟩,⟨.some 18,.load .true 20 (.t 17),.none⟩,⟨.some 10,.alloc 37 20 (.agg [.int .i64 0,.int .i64 0,.int .i64 0,.int .i64 0,.int .i64 0,.int .i64 0,.int .i64 0,.int .i64 0,.int .i64 0,.int .i64 0,.int .i64 0,.int .i64 0,.int .i64 0,.int .i64 0,.int .i64 0,.int .i64 0,.nils,.int .i64 0,.int .i64 0,.int .i64 0]),.none⟩,⟨.none,.store 20 (.t 10) (.t 18),.none⟩]) (.seq (.seq (.reg .false [⟨.some 19,.fldA .false 0 1 (.t 10),.none⟩,⟨.some 20,.load .false 1 (.t 19),.none⟩,⟨.some 21,.bin .eql (.t 20) (.c (.int .i64 1)),.none⟩]) (.cond (.t 21) (.reg .true [⟨.some 22,.mov (.t 9),.none⟩,⟨.some 23,.bin .add (.t 22) (.c (.str [91])),.none⟩,⟨.some 24,.fldA .true 2 12 (.t 10),.none⟩,⟨.some 25,.load .true 12 (.t 24),.none⟩,⟨.some 26,.call (.c (.fn 89 [])) [.t 25],.none⟩,⟨.some 27,.bin .add (.t 23) (.t 26),.none⟩,⟨.some 28,.mov (.t 0),.none⟩,⟨.some 29,.mov (.t 1),.none⟩,⟨.some 30,.bin .add (.t 29) (.c (.int .i64 1)),.none⟩,⟨.some 31,.mov (.t 1),.none⟩,⟨.some 32,.fldA .false 1 1 (.t 10),.none⟩,⟨.some 33,.load .false 1 (.t 32),.none⟩,⟨.some 34,.bin .add (.t 31) (.t 33),.none⟩,⟨.some 35,.call (.c (.fn 58 [])) [.t 28,.t 30,.t 34,.c (.str [])],.none⟩,⟨.some 36,.bin .add (.t 27) (.t 35),.none⟩,⟨.some 37,.bin .add (.t 36) (.c (.str [93])),.none⟩,⟨.some 9,.mov (.t 37),.none⟩]) .skip)) (.seq (.seq (.reg .false [⟨.some 38,.fldA .false 0 1 (.t 10),.none⟩,⟨.some 39,.load .false 1 (.t 38),.none⟩,⟨.some 40,.bin .eql (.t 39) (.c (.int .i64 2)),.none⟩]) (.cond (.t 40) (.seq (.reg .true [⟨.some 41,.mov (.t 9),.none⟩,⟨.some 42,.bin .add (.t 41) (.c (.str [40])),.none⟩,⟨.some 43,.fldA .false 14 1 (.t 10),.none⟩,⟨.some 44,.load .false 1 (.t 43),.none⟩,⟨.some 45,.call (.c (.fn 90 [])) [.t 44],.none⟩,⟨.some 46,.bin .add (.t 42) (.t 45),.none⟩,⟨.some 47,.bin .add (.t 46) (.c (.str [32])),.none⟩,⟨.some 48,.fldA .false 15 1 (.t 10),.none⟩,⟨.some 49,.load .false 1 (.t 48),.none⟩,⟨.some 50,.call (.c (.fn 90 [])) [.t 49],.none⟩,⟨.some 51,.bin .add (.t 47) (.t 50),.none⟩,⟨.some 9,.mov (.t 51),.none⟩]) (.seq (.seq (.reg .false [⟨.some 11,.mov (.c (.int .i64 0)),.none⟩]) (.block 2 (.loop (.seq (.seq (.reg .false [⟨.some 52,.mov (.t 11),.none⟩,⟨.some 53,.fldA .false 16 1 (.t 10),.none⟩,⟨.some 54,.load .false 1 (.t 53),.none⟩,⟨.some 55,.len .false (.t 54),.none⟩,⟨.some 56,.bin .lss (.t 52) (.t 55),.none⟩]) (.cond (.t 56) .skip (.exit 2))) (.seq (.block 3 (.reg .false [⟨.some 59,.mov (.t 9),.none⟩,⟨.some 60,.bin .add (.t 59) (.c (.str [32])),.none⟩,⟨.some 61,.fldA .false 16 1 (.t 10),.none⟩,⟨.some 62,.load .false 1 (.t 61),.none⟩,⟨.some 63,.mov (.t 11),.none⟩,⟨.some 64,.idxA 1 (.t 62) (.t 63),.none⟩,⟨.some 65,.load .false 1 (.t 64),.none⟩,⟨.some 66,.call (.c (.fn 90 [])) [.t 65],.none⟩,⟨.some 67,.bin .add (.t 60) (.t 66),.none⟩,⟨.some 9,.mov (.t 67),.none⟩])) (.reg .false [⟨.some 57,.mov (.t 11),.none⟩,⟨.some 58,.bin .add (.t 57) (.c (.int .i64 1)),.none⟩,⟨.some 11,.mov (.t 58),.none⟩])))))) (.reg .false [⟨.some 68,.mov (.t 9),.none⟩,⟨.some 69,.bin .add (.t 68) (.c (.str [41])),.none⟩,⟨.some 9,.mov (.t 69),.none⟩]))) .skip)) (.seq (.seq (.reg .false [⟨.some 70,.fldA .false 0 1 (.t 10),.none⟩,⟨.some 71,.load .false 1 (.t 70),.none⟩,⟨.some 72,.bin .eql (.t 71) (.c (.int .i64 3)),.none⟩]) (.cond (.t 72) (.reg .true [⟨.some 73,.mov (.t 9),.none⟩,⟨.some 74,.bin .add (.t 73) (.c (.str [123])),.none⟩,⟨.some 75,.fldA .false 18 1 (.t 10),.none⟩,⟨.some 76,.load .false 1 (.t 75),.none⟩,⟨.some 77,.call (.c (.fn 90 [])) [.t 76],.none⟩,⟨.some 78,.bin .add (.t 74) (.t 77),.none⟩,⟨.some 79,.bin .add (.t 78) (.c (.str [32])),.none⟩,⟨.some 80,.fldA .false 19 1 (.t 10),.none⟩,⟨.some 81,.load .false 1 (.t 80),.none⟩,⟨.some 82,.call (.c (.fn 90 [])) [.t 81],.none⟩,⟨.some 83,.bin .add (.t 79) (.t 82),.none⟩,⟨.some 84,.bin .add (.t 83) (.c (.str [125])),.none⟩,⟨.some 9,.mov (.t 84),.none⟩]) .skip)) (.seq (.seq (.reg .false [⟨.some 85,.fldA .false 0 1 (.t 10),.none⟩,⟨.some 86,.load .false 1 (.t 85),.none⟩,⟨.some 87,.bin .eql (.t 86) (.c (.int .i64 4)),.none⟩,⟨.some 88,.mov (.t 87),.none⟩,⟨.some 89,.fldA .false 17 1 (.t 10),.some ((.t 88),.true)⟩,⟨.some 90,.load .false 1 (.t 89),.some ((.t 88),.true)⟩,⟨.some 91,.bin .eql (.t 90) (.c (.int .i64 1)),.some ((.t 88),.true)⟩,⟨.some 92,.pick (.t 88) (.t 91) (.c (.bool .false)),.none⟩]) (.cond (.t 92) (.reg .true [⟨.some 93,.mov (.t 9),.none⟩,⟨.some 94,.bin .add (.t 93) (.c (.str [60,76])),.none⟩,⟨.some 95,.fldA .false 18 1 (.t 10),.none⟩,⟨.some 96,.load .false 1 (.t 95),.none⟩,⟨.some 97,.call (.c (.fn 90 [])) [.t 96],.none⟩,⟨.some 98,.bin .add (.t 94) (.t 97),.none⟩,⟨.some 99,.bin .add (.t 98) (.c (.str [32])),.none⟩,⟨.some 100,.fldA .false 19 1 (.t 10),.none⟩,⟨.some 101,.load .false 1 (.t 100),.none⟩,⟨.some 102,.call (.c (.fn 90 [])) [.t 101],.none⟩,⟨.some 103,.bin .add (.t 99) (.t 102),.none⟩,⟨.some 104,.bin .add (.t 103) (.c (.str [62])),.none⟩,⟨.some 9,.mov (.t 104),.none⟩]) .skip)) (.seq (.seq (.reg .false [⟨.some 105,.fldA .false 0 1 (.t 10),.none⟩,⟨.some 106,.load .false 1 (.t 105),.none⟩,⟨.some 107,.bin .eql (.t 106) (.c (.int .i64 4)),.none⟩,⟨.some 108,.mov (.t 107),.none⟩,⟨.some 109,.fldA .false 17 1 (.t 10),.some ((.t 108),.true)⟩,⟨.some 110,.load .false 1 (.t 109),.some ((.t 108),.true)⟩,⟨.some 111,.bin .eql (.t 110) (.c (.int .i64 2)),.some ((.t 108),.true)⟩,⟨.some 112,.pick (.t 108) (.t 111) (.c (.bool .false)),.none⟩]) (.cond (.t 112) (.reg .true [⟨.some 113,.mov (.t 9),.none⟩,⟨.some 114,.bin .add (.t 113) (.c (.str [60,82])),.none⟩,⟨.some 115,.fldA .false 18 1 (.t 10),.none⟩,⟨.some 116,.load .false 1 (.t 115),.none⟩,⟨.some 117,.call (.c (.fn 90 [])) [.t 116],.none⟩,⟨.some 118,.bin .add (.t 114) (.t 117),.none⟩,⟨.some 119,.bin .add (.t 118) (.c (.str [32])),.none⟩,⟨.some 120,.fldA .false 19 1 (.t 10),.none⟩,⟨.some 121,.load .false 1 (.t 120),.none⟩,⟨.some 122,.call (.c (.fn 90 [])) [.t 121],.none⟩,⟨.some 123,.bin .add (.t 119) (.t 122),.none⟩,⟨.some 124,.bin .add (.t 123) (.c (.str [62])),.none⟩,⟨.some 9,.mov (.t 124),.none⟩]) .skip)) (.seq (.reg .false [⟨.some 125,.mov (.t 9),.none⟩,⟨.some 126,.mov (.t 3),.none⟩,⟨.some 127,.bin .add (.t 125) (.t 126),.none⟩,⟨.some 9,.mov (.t 127),.none⟩]) (.reg .false [⟨.some 128,.mov (.t 1),.none⟩,⟨.some 129,.fldA .false 1 1 (.t 10),.none⟩,⟨.some 130,.load .false 1 (.t 129),.none⟩,⟨.some 131,.bin .add (.t 128) (.t 130),.none⟩,⟨.some 1,.mov (.t 131),.none⟩])))))))))))) (.seq (.reg .false [⟨.some 132,.mov (.t 9),.none⟩,⟨.some 8,.mov (.t 132),.none⟩]) .ret))),[.tmp (.t 8)]⟩
theorem e58 : cfn Tryd.prog Tryd.f58 = some c58 := by kernel_rfl
theorem k58 : callable Tryd.prog 58 = true := by kernel_rfl
def c59 : VFn := ⟨2,.seq (.reg .false [⟨.some 0,.alloc 34 12 (.agg [.int .i64 0,.int .i64 0,.int .i64 0,.int .i64 0,.int .i64 0,.int .i64 0,.int .i64 0,.int .i64 0,.int .i64 0,.int .i64 0,.int .i64 0,.int .i64 0]),.none⟩]) (.seq (.reg .false [⟨.some 1,.build [.int .i64 0,.int .i64 0,.int .i64 0,.int .i64 0,.int .i64 0,.int .i64 0,.int .i64 0,.int .i64 0,.int .i64 0,.int .i64 0,.int .i64 0,.int .i64 0] [(5,(1,(.c (.int .i64 2)))),(6,(1,(.c (.int .i64 2))))],.none⟩,⟨.none,.store 12 (.t 0) (.t 1),.none⟩]) .ret),[.cell .true 12 (.t 0)]⟩
theorem e59 : cfn Tryd.prog Tryd.f59 = some c59 := by kernel_rfl
theorem k59 : callable Tryd.prog 59 = true := by kernel_rfl
def c60 : VFn := ⟨23,.seq (.reg .false [⟨.some 4,.mov (.c (.bool .false)),.none⟩]) (.seq (.reg .false [⟨.some 5,.mov (.t 0),.none⟩,⟨.some 6,.len .false (.t 5),.none⟩,⟨.some 7,.bin .gtr (.t 6) (.c (.int .i64 0)),.none⟩,⟨.some 8,.mov (.t 7),.none⟩,⟨.some 9,.mov (.t 0),.some ((.t 8),.true)⟩,⟨.some 10,.idxA 4 (.t 9) (.c (.int .i64 0)),.some ((.t 8),.true)⟩,⟨.some 11,.fldA .false 0 1 (.t 10),.some ((.t 8),.true)⟩,⟨.some 12,.load .false 1 (.t 11),.some ((.t 8),.true)⟩,⟨.some 13,.bin .eql (.t 12) (.c (.int .i64 1)),.some ((.t 8),.true)⟩,⟨.some 14,.pick (.t 8) (.t 13) (.c (.bool .false)),.none⟩,⟨.some 15,.mov (.t 14),.none⟩,⟨.some 16,.mov (.t 0),.some ((.t 15),.true)⟩,⟨.some 17,.idxA 4 (.t 16) (.c (.int .i64 0)),.some ((.t 15),.true)⟩,⟨.some 18,.fldA .false 1 1 (.t 17),.some ((.t 15),.true)⟩,⟨.some 19,.load .false 1 (.t 18),.some ((.t 15),.true)⟩,⟨.some 20,.mov (.t 1),.some ((.t 15),.true)⟩,⟨.some 21,.bin .eql (.t 19) (.t 20),.some ((.t 15),.true)⟩,⟨.some 22,.pick (.t 15) (.t 21) (.c (.bool .false)),.none⟩,⟨.some 4,.mov (.t 22),.none⟩]) .ret),[.tmp (.t 4)]⟩
theorem e60 : cfn Tryd.prog Tryd.f60 = some c60 := by kernel_rfl
theorem k60 : callable Tryd.prog 60 = true := by kernel_rfl
def c61 : VFn := ⟨16,.seq (.reg .false [⟨.some 2,.mov (.c .niliface),.none⟩]) (.seq (.reg .false [⟨.some 4,.mov (.t 0),.none⟩,⟨.some 5,.call (.c (.fn 63 [])) [.t 4,.c (.int .i32 91)],.none⟩]) (.seq (.reg .false [⟨.some 6,.mov (.t 0),.none⟩,⟨.some 7,.call (.c (.fn 91 [])) [.t 6],.none⟩,⟨.some 8,.build [.int .i64 0,.int .i64 0,.int .i64 0,.int .i64 0,.int .i64 0,.int .i64 0,.int .i64 0,.int .i64 0,.int .i64 0,.int .i64 0,.int .i64 0,.int .i64 0,.nils] [(0,(12,(.t 7)))],.none⟩,⟨.some 3,.alloc 109 13 (.agg [.int .i64 0,.int .i64 0,.int .i64 0,.int .i64 0,.int .i64 0,.int .i64 0,.int .i64 0,.int .i64 0,.int .i64 0,.int .i64 0,.int .i64 0,.int .i64 0,.nils]),.none⟩,⟨.none,.store 13 (.t 3) (.t 8),.none⟩]) (.seq (.reg .false [⟨.some 9,.mov (.t 0),.none⟩,⟨.some 10,.call (.c (.fn 34 [])) [.t 9],.none⟩,⟨.some 11,.fldA .false 12 1 (.t 3),.none⟩,⟨.none,.store 1 (.t 11) (.t 10),.none⟩]) (.seq (.reg .false [⟨.some 12,.mov (.t 0),.none⟩,⟨.some 13,.call (.c (.fn 63 [])) [.t 12,.c (.int .i32 93)],.none⟩]) (.seq (.reg .false [⟨.some 14,.load .true 13 (.t 3),.none⟩,⟨.some 15,.more (.mkI 109) [.t 14],.none⟩,⟨.some 2,.mov (.t 15),.none⟩]) .ret))))),[.tmp (.t 2)]⟩
theorem e61 : cfn Tryd.prog Tryd.f61 = some c61 := by kernel_rfl
theorem k61 : callable Tryd.prog 61 = true := by kernel_rfl
def c62 : VFn := ⟨28,.seq (.reg .false [⟨.some 2,.mov (.c .niliface),.none⟩]) (.seq (.reg .false [⟨.some 4,.mov (.t 0),.none⟩,⟨.some 5,.call (.c (.fn 63 [])) [.t 4,.c (.int .i32 40)],.none⟩]) (.seq (.reg .false [⟨.some 6,.mov (.t 0),.none⟩,⟨.some 7,.call (.c (.fn 92 [])) [.t 6,.c (.int .i64 1),.c (.int .i64 1099511627776)],.none⟩,⟨.some 8,.mov (.t 0),.none⟩,⟨.some 9,.call (.c (.fn 92 [])) [.t 8,.c (.int .i64 0),.c (.int .i64 1099511627776)],.none⟩,⟨.some 10,.mov (.t 0),.none⟩,⟨.some 11,.call (.c (.fn 92 [])) [.t 10,.c (.int .i64 1),.c (.int .i64 1099511627776)],.none⟩,⟨.some 12,.bslice 3 1 [.t 7,.t 9,.t 11],.none⟩,⟨.some 3,.mov (.t 12),.none⟩]) (.seq (.block 0 (.loop (.seq (.seq (.reg .false [⟨.some 13,.mov (.t 0),.none⟩,⟨.some 14,.nilCheck (.t 13),.none⟩,⟨.some 15,.fldA .false 0 1 (.t 14),.none⟩,⟨.some 16,.load .false 1 (.t 15),.none⟩,⟨.some 17,.call (.c (.fn 93 [])) [.t 16,.c (.int .i64 1),.c (.int .i64 1099511627776)],.none⟩]) (.cond (.t 17) .skip (.exit 0))) (.block 1 (.reg .false [⟨.some 18,.mov (.t 3),.none⟩,⟨.some 19,.mov (.t 0),.none⟩,⟨.some 20,.call (.c (.fn 92 [])) [.t 19,.c (.int .i64 1),.c (.int .i64 1099511627776)],.none⟩,⟨.some 21,.bslice 3 1 [.t 20],.none⟩,⟨.some 22,.append 3 1 8 (.t 18) (.t 21),.none⟩,⟨.some 3,.mov (.t 22),.none⟩]))))) (.seq (.reg .false [⟨.some 23,.mov (.t 0),.none⟩,⟨.some 24,.call (.c (.fn 63 [])) [.t 23,.c (.int .i32 41)],.none⟩]) (.seq (.reg .false [⟨.some 25,.mov (.t 3),.none⟩,⟨.some 26,.build [.nils] [(0,(1,(.t 25)))],.none⟩,⟨.some 27,.more (.mkI 140) [.t 26],.none⟩,⟨.some 2,.mov (.t 27),.none⟩]) .ret))))),[.tmp (.t 2)]⟩
theorem e62 : cfn Tryd.prog Tryd.f62 = some c62 := by kernel_rfl
theorem k62 : callable Tryd.prog 62 = true := by kernel_rfl
def c63 : VFn := ⟨33,.seq (.reg .false [⟨.some 4,.mov (.t 0),.none⟩,⟨.some 5,.mov (.t 0),.none⟩,⟨.some 6,.nilCheck (.t 5),.none⟩,⟨.some 7,.fldA .false 1 1 (.t 6),.none⟩,⟨.some 8,.load .false 1 (.t 7),.none⟩,⟨.some 9,.mov (.t 8),.none⟩,⟨.some 10,.mov (.t 0),.some ((.t 9),.false)⟩,⟨.some 11,.nilCheck (.t 10),.some ((.t 9),.false)⟩,⟨.some 12,.fldA .false 0 1 (.t 11),.some ((.t 9),.false)⟩,⟨.some 13,.load .false 1 (.t 12),.some ((.t 9),.false)⟩,⟨.some 14,.mov (.t 1),.some ((.t 9),.false)⟩,⟨.some 15,.call (.c (.fn 60 [])) [.t 13,.t 14],.some ((.t 9),.false)⟩,⟨.some 16,.not (.t 15),.some ((.t 9),.false)⟩,⟨.some 17,.pick (.t 9) (.c (.bool .true)) (.t 16),.none⟩,⟨.some 18,.nilCheck (.t 4),.none⟩,⟨.some 19,.fldA .false 1 1 (.t 18),.none⟩,⟨.none,.store 1 (.t 19) (.t 17),.none⟩]) (.seq (.reg .false [⟨.some 20,.mov (.t 0),.none⟩,⟨.some 21,.nilCheck (.t 20),.none⟩,⟨.some 22,.fldA .false 1 1 (.t 21),.none⟩,⟨.some 23,.load .false 1 (.t 22),.none⟩,⟨.some 24,.not (.t 23),.none⟩]) (.cond (.t 24) (.reg .false [⟨.some 25,.mov (.t 0),.none⟩,⟨.some 26,.mov (.t 0),.none⟩,⟨.some 27,.nilCheck (.t 26),.none⟩,⟨.some 28,.fldA .false 0 1 (.t 27),.none⟩,⟨.some 29,.load .false 1 (.t 28),.none⟩,⟨.some 30,.slice 4 (.t 29) (.some (.c (.int .i64 1))) .none .none,.none⟩,⟨.some 31,.nilCheck (.t 25),.none⟩,⟨.some 32,.fldA .false 0 1 (.t 31),.none⟩,⟨.none,.store 1 (.t 32) (.t 30),.none⟩]) .skip)),[]⟩
theorem e63 : cfn Tryd.prog Tryd.f63 = some c63 := by kernel_rfl
theorem k63 : callable Tryd.prog 63 = true := by kernel_rfl
def c64 : VFn := ⟨15,.seq (.reg .false [⟨.some 4,.alloc 105 2 (.agg [.int .i64 0,.int .i64 0]),.none⟩]) (.seq (.reg .false [⟨.some 6,.mov (.t 0),.none⟩,⟨.some 7,.call (.c (.fn 92 [])) [.t 6,.c (.int .i64 1),.c (.int .i64 1099511627776)],.none⟩,⟨.some 8,.mov (.t 0),.none⟩,⟨.some 9,.call (.c (.fn 92 [])) [.t 8,.c (.int .i64 1),.c (.int .i64 1099511627776)],.none⟩,⟨.some 10,.build [.int .i64 0,.int .i64 0] [(0,(1,(.t 7))),(1,(1,(.t 9)))],.none⟩,⟨.some 5,.alloc 105 2 (.agg [.int .i64 0,.int .i64 0]),.none⟩,⟨.none,.store 2 (.t 5) (.t 10),.none⟩]) (.seq (.reg .false [⟨.some 11,.mov (.t 0),.none⟩,⟨.some 12,.mov (.t 1),.none⟩,⟨.some 13,.call (.c (.fn 63 [])) [.t 11,.t 12],.none⟩]) (.seq (.reg .false [⟨.some 14,.load .true 2 (.t 5),.none⟩,⟨.none,.store 2 (.t 4) (.t 14),.none⟩]) .ret))),[.cell .true 2 (.t 4)]⟩
theorem e64 : cfn Tryd.prog Tryd.f64 = some c64 := by kernel_rfl
theorem k64 : callable Tryd.prog 64 = true := by kernel_rfl
def c65 : VFn := ⟨20,.seq (.reg .false [⟨.some 2,.mov (.c .niliface),.none⟩]) (.seq (.reg .false [⟨.some 4,.mov (.t 0),.none⟩,⟨.some 5,.call (.c (.fn 63 [])) [.t 4,.c (.int .i32 60)],.none⟩]) (.seq (.reg .false [⟨.some 3,.mov (.c (.int .i64 1)),.none⟩]) (.seq (.seq (.reg .false [⟨.some 6,.mov (.t 0),.none⟩,⟨.some 7,.nilCheck (.t 6),.none⟩,⟨.some 8,.fldA .false 0 1 (.t 7),.none⟩,⟨.some 9,.load .false 1 (.t 8),.none⟩,⟨.some 10,.call (.c (.fn 60 [])) [.t 9,.c (.int .i32 82)],.none⟩]) (.cond (.t 10) (.seq (.reg .false [⟨.some 3,.mov (.c (.int .i64 2)),.none⟩]) (.reg .false [⟨.some 11,.mov (.t 0),.none⟩,⟨.some 12,.call (.c (.fn 63 [])) [.t 11,.c (.int .i32 82)],.none⟩])) (.reg .false [⟨.some 13,.mov (.t 0),.none⟩,⟨.some 14,.call (.c (.fn 63 [])) [.t 13,.c (.int .i32 76)],.none⟩]))) (.seq (.reg .false [⟨.some 15,.mov (.t 0),.none⟩,⟨.some 16,.call (.c (.fn 64 [])) [.t 15,.c (.int .i32 62)],.none⟩,⟨.some 17,.mov (.t 3),.none⟩,⟨.some 18,.build [.int .i64 0,.int .i64 0,.int .i64 0] [(0,(2,(.t 16))),(2,(1,(.t 17)))],.none⟩,⟨.some 19,.more (.mkI 142) [.t 18],.none⟩,⟨.some 2,.mov (.t 19),.none⟩]) .ret)))),[.tmp (.t 2)]⟩
theorem e65 : cfn Tryd.prog Tryd.f65 = some c65 := by kernel_rfl
theorem k65 : callable Tryd.prog 65 = true := by kernel_rfl
def c71 : VFn := ⟨8,.seq (.reg .false [⟨.some 4,.mov (.c (.bool .false)),.none⟩]) (.seq (.reg .false [⟨.some 5,.mov (.t 0),.none⟩,⟨.some 6,.mov (.t 1),.none⟩,⟨.some 7,.call (.c (.fn 98 [])) [.t 5,.t 6],.none⟩,⟨.some 4,.mov (.t 7),.none⟩]) .ret),[.tmp (.t 4)]⟩
theorem e71 : cfn Tryd.prog Tryd.f71 = some c71 := by kernel_rfl
theorem k71 : callable Tryd.prog 71 = true := by kernel_rfl
def c72 : VFn := ⟨30,.seq (.reg .false [⟨.some 3,.alloc 3 1 (.int .i64 0),.none⟩,⟨.none,.store 1 (.t 3) (.c (.int .i64 0)),.none⟩]) (.seq (.reg .false [⟨.some 9,.mkfn 73 [.t 3,.t 1],.none⟩,⟨.some 4,.mov (.t 9),.none⟩]) (.seq (.reg .false [⟨.some 10,.load .false 1 (.t 1),.none⟩,⟨.some 11,.rngS .false (.t 10),.none⟩]) (.block 0 (.loop (.seq (.reg .false [⟨.some 12,.nxtS (.t 11),.none⟩,⟨.some 13,.ext 0 (.t 12),.none⟩]) (.seq (.cond (.t 13) .skip (.exit 0)) (.block 1 (.seq (.reg .false [⟨.some 14,.ext 1 (.t 12),.none⟩,⟨.some 15,.ext 2 (.t 12),.none⟩,⟨.some 5,.mov (.t 14),.none⟩,⟨.some 6,.mov (.t 15),.none⟩]) (.seq (.reg .false [⟨.some 17,.mov (.t 4),.none⟩,⟨.some 18,.mov (.t 5),.none⟩,⟨.some 19,.mov (.t 6),.none⟩,⟨.some 20,.call (.t 17) [.t 18,.t 19],.none⟩,⟨.some 16,.mov (.t 20),.none⟩,⟨.some 21,.ext 0 (.t 16),.none⟩,⟨.some 22,.ext 1 (.t 16),.none⟩,⟨.some 7,.alloc 61 4 (.agg [.int .i64 0,.int .i32 0,.int .i64 0,.int .i64 0]),.none⟩,⟨.none,.store 4 (.t 7) (.t 21),.none⟩,⟨.some 8,.mov (.t 22),.none⟩]) (.seq (.reg .false [⟨.some 23,.mov (.t 8),.none⟩,⟨.some 24,.mov (.t 23),.none⟩,⟨.some 25,.mov (.t 0),.some ((.t 24),.true)⟩,⟨.some 26,.load .true 4 (.t 7),.some ((.t 24),.true)⟩,⟨.some 27,.call (.t 25) [.t 26],.some ((.t 24),.true)⟩,⟨.some 28,.not (.t 27),.some ((.t 24),.true)⟩,⟨.some 29,.pick (.t 24) (.t 28) (.c (.bool .false)),.none⟩]) (.cond (.t 29) .ret .skip))))))))))),[]⟩
theorem e72 : cfn Tryd.prog Tryd.f72 = some c72 := by kernel_rfl
theorem k72 : callable Tryd.prog 72 = true := by kernel_rfl
def c73 : VFn := ⟨60,.seq (.reg .false [⟨.some 6,.alloc 61 4 (.agg [.int .i64 0,.int .i32 0,.int .i64 0,.int .i64 0]),.none⟩,⟨.some 7,.mov (.c (.bool .false)),.none⟩]) (.seq (.block 0 (.seq (.reg .false [⟨.some 12,.mov (.t 0),.none⟩,⟨.some 13,.load .false 1 (.t 2),.none⟩,⟨.some 14,.bin .lss (.t 12) (.t 13),.none⟩,⟨.some 15,.mov (.t 14),.none⟩,⟨.some 16,.mov (.t 1),.some ((.t 15),.false)⟩,⟨.some 17,.call (.c (.fn 74 [])) [.t 16],.some ((.t 15),.false)⟩,⟨.some 18,.pick (.t 15) (.c (.bool .true)) (.t 17),.none⟩,⟨.some 11,.mov (.t 18),.none⟩]) (.cond (.t 11) (.seq (.reg .false [⟨.some 19,.build [.int .i64 0,.int .i32 0,.int .i64 0,.int .i64 0] [],.none⟩,⟨.none,.store 4 (.t 6) (.t 19),.none⟩,⟨.some 7,.mov (.c (.bool .false)),.none⟩]) .ret) (.seq (.reg .false [⟨.some 21,.mov (.t 1),.none⟩,⟨.some 22,.bin .eql (.t 21) (.c (.int .i32 35)),.none⟩,⟨.some 20,.mov (.t 22),.none⟩]) (.cond (.t 20) (.seq (.reg .false [⟨.some 23,.load .false 1 (.t 3),.none⟩,⟨.some 24,.mov (.t 0),.none⟩,⟨.some 25,.sliceS (.t 23) (.some (.t 24)) .none,.none⟩,⟨.some 26,.call (.c (.fn 75 [])) [.t 25,.c (.int .u8 10)],.none⟩,⟨.some 8,.mov (.t 26),.none⟩]) (.seq (.seq (.reg .false [⟨.some 27,.load .false 1 (.t 3),.none⟩,⟨.some 28,.len .true (.t 27),.none⟩,⟨.none,.store 1 (.t 2) (.t 28),.none⟩]) (.seq (.reg .false [⟨.some 29,.mov (.t 8),.none⟩,⟨.some 30,.bin .geq (.t 29) (.c (.int .i64 0)),.none⟩]) (.cond (.t 30) (.reg .false [⟨.some 31,.mov (.t 0),.none⟩,⟨.some 32,.mov (.t 8),.none⟩,⟨.some 33,.bin .add (.t 31) (.t 32),.none⟩,⟨.none,.store 1 (.t 2) (.t 33),.none⟩]) .skip))) (.seq (.reg .false [⟨.some 34,.build [.int .i64 0,.int .i32 0,.int .i64 0,.int .i64 0] [],.none⟩,⟨.none,.store 4 (.t 6) (.t 34),.none⟩,⟨.some 7,.mov (.c (.bool .false)),.none⟩]) .ret))) (.seq (.reg .false [⟨.some 36,.mov (.t 1),.none⟩,⟨.some 37,.call (.c (.fn 76 [])) [.t 36],.none⟩,⟨.some 35,.mov (.t 37),.none⟩]) (.cond (.t 35) (.seq (.reg .false [⟨.some 38,.mov (.t 0),.none⟩,⟨.some 39,.load .false 1 (.t 3),.none⟩,⟨.some 40,.mov (.t 0),.none⟩,⟨.some 41,.sliceS (.t 39) (.some (.t 40)) .none,.none⟩,⟨.some 42,.call (.c (.fn 77 [])) [.t 41],.none⟩,⟨.some 43,.bin .add (.t 38) (.t 42),.none⟩,⟨.none,.store 1 (.t 2) (.t 43),.none⟩]) (.seq (.reg .false [⟨.some 45,.load .false 1 (.t 3),.none⟩,⟨.some 46,.mov (.t 0),.none⟩,⟨.some 47,.load .false 1 (.t 2),.none⟩,⟨.some 48,.sliceS (.t 45) (.some (.t 46)) (.some (.t 47)),.none⟩,⟨.some 49,.call (.c (.fn 78 [])) [.t 48],.none⟩,⟨.some 44,.mov (.t 49),.none⟩,⟨.some 50,.ext 0 (.t 44),.none⟩,⟨.some 51,.ext 1 (.t 44),.none⟩,⟨.some 9,.mov (.t 50),.none⟩,⟨.some 10,.mov (.t 51),.none⟩]) (.seq (.seq (.reg .false [⟨.some 52,.mov (.t 10),.none⟩,⟨.some 53,.not (.t 52),.none⟩]) (.cond (.t 53) (.reg .false [⟨.some 9,.mov (.c (.int .i64 (-1))),.none⟩]) .skip)) (.seq (.reg .false [⟨.some 54,.mov (.t 9),.none⟩,⟨.some 55,.mov (.t 0),.none⟩,⟨.some 56,.build [.int .i64 0,.int .i32 0,.int .i64 0,.int .i64 0] [(0,(1,(.c (.int .i64 2)))),(2,(1,(.t 54))),(3,(1,(.t 55)))],.none⟩,⟨.none,.store 4 (.t 6) (.t 56),.none⟩,⟨.some 7,.mov (.c (.bool .true)),.none⟩]) .ret)))) .skip))))))) (.seq (.reg .false [⟨.some 57,.mov (.t 1),.none⟩,⟨.some 58,.mov (.t 0),.none⟩,⟨.some 59,.build [.int .i64 0,.int .i32 0,.int .i64 0,.int .i64 0] [(0,(1,(.c (.int .i64 1)))),(1,(1,(.t 57))),(3,(1,(.t 58)))],.none⟩,⟨.none,.store 4 (.t 6) (.t 59),.none⟩,⟨.some 7,.mov (.c (.bool .true)),.none⟩]) .ret)),[.cell .true 4 (.t 6),.tmp (.t 7)]⟩
theorem e73 : cfn Tryd.prog Tryd.f73 = some c73 := by kernel_rfl
theorem k73 : callable Tryd.prog 73 = true := by kernel_rfl
def c74 : VFn := ⟨13,.seq (.reg .false [⟨.some 2,.mov (.c (.bool .false)),.none⟩]) (.seq (.reg .false [⟨.some 3,.mov (.t 0),.none⟩,⟨.some 4,.bin .eql (.t 3) (.c (.int .i32 32)),.none⟩,⟨.some 5,.mov (.t 4),.none⟩,⟨.some 6,.mov (.t 0),.some ((.t 5),.false)⟩,⟨.some 7,.bin .eql (.t 6) (.c (.int .i32 9)),.some ((.t 5),.false)⟩,⟨.some 8,.pick (.t 5) (.c (.bool .true)) (.t 7),.none⟩,⟨.some 9,.mov (.t 8),.none⟩,⟨.some 10,.mov (.t 0),.some ((.t 9),.false)⟩,⟨.some 11,.bin .eql (.t 10) (.c (.int .i32 10)),.some ((.t 9),.false)⟩,⟨.some 12,.pick (.t 9) (.c (.bool .true)) (.t 11),.none⟩,⟨.some 2,.mov (.t 12),.none⟩]) .ret),[.tmp (.t 2)]⟩
theorem e74 : cfn Tryd.prog Tryd.f74 = some c74 := by kernel_rfl
theorem k74 : callable Tryd.prog 74 = true := by kernel_rfl
def c76 : VFn := ⟨9,.seq (.reg .false [⟨.some 2,.mov (.c (.bool .false)),.none⟩]) (.seq (.reg .false [⟨.some 3,.mov (.t 0),.none⟩,⟨.some 4,.bin .geq (.t 3) (.c (.int .i32 48)),.none⟩,⟨.some 5,.mov (.t 4),.none⟩,⟨.some 6,.mov (.t 0),.some ((.t 5),.true)⟩,⟨.some 7,.bin .leq (.t 6) (.c (.int .i32 57)),.some ((.t 5),.true)⟩,⟨.some 8,.pick (.t 5) (.t 7) (.c (.bool .false)),.none⟩,⟨.some 2,.mov (.t 8),.none⟩]) .ret),[.tmp (.t 2)]⟩
theorem e76 : cfn Tryd.prog Tryd.f76 = some c76 := by kernel_rfl
theorem k76 : callable Tryd.prog 76 = true := by kernel_rfl
def c77 : VFn := ⟨18,.seq (.reg .false [⟨.some 2,.mov (.c (.int .i64 0)),.none⟩]) (.seq (.reg .false [⟨.some 3,.mov (.c (.int .i64 0)),.none⟩]) (.seq (.block 0 (.loop (.seq (.seq (.reg .false [⟨.some 4,.mov (.t 3),.none⟩,⟨.some 5,.mov (.t 0),.none⟩,⟨.some 6,.len .true (.t 5),.none⟩,⟨.some 7,.bin .lss (.t 4) (.t 6),.none⟩,⟨.some 8,.mov (.t 7),.none⟩,⟨.some 9,.mov (.t 0),.some ((.t 8),.true)⟩,⟨.some 10,.mov (.t 3),.some ((.t 8),.true)⟩,⟨.some 11,.idxS (.t 9) (.t 10),.some ((.t 8),.true)⟩,⟨.some 12,.convI .i32 (.t 11),.some ((.t 8),.true)⟩,⟨.some 13,.call (.c (.fn 76 [])) [.t 12],.some ((.t 8),.true)⟩,⟨.some 14,.pick (.t 8) (.t 13) (.c (.bool .false)),.none⟩]) (.cond (.t 14) .skip (.exit 0))) (.block 1 (.reg .false [⟨.some 15,.mov (.t 3),.none⟩,⟨.some 16,.bin .add (.t 15) (.c (.int .i64 1)),.none⟩,⟨.some 3,.mov (.t 16),.none⟩]))))) (.seq (.reg .false [⟨.some 17,.mov (.t 3),.none⟩,⟨.some 2,.mov (.t 17),.none⟩]) .ret))),[.tmp (.t 2)]⟩
theorem e77 : cfn Tryd.prog Tryd.f77 = some c77 := by kernel_rfl
theorem k77 : callable Tryd.prog 77 = true := by kernel_rfl
def c78 : VFn := ⟨27,.seq (.reg .false [⟨.some 2,.mov (.c (.int .i64 0)),.none⟩,⟨.some 3,.mov (.c (.bool .false)),.none⟩]) (.seq (.seq (.reg .false [⟨.some 6,.mov (.t 0),.none⟩,⟨.some 7,.len .true (.t 6),.none⟩,⟨.some 8,.bin .gtr (.t 7) (.c (.int .i64 1)),.none⟩,⟨.some 9,.mov (.t 8),.none⟩,⟨.some 10,.mov (.t 0),.some ((.t 9),.true)⟩,⟨.some 11,.idxS (.t 10) (.c (.int .i64 0)),.some ((.t 9),.true)⟩,⟨.some 12,.bin .eql (.t 11) (.c (.int .u8 48)),.some ((.t 9),.true)⟩,⟨.some 13,.pick (.t 9) (.t 12) (.c (.bool .false)),.none⟩,⟨.some 14,.mov (.t 13),.none⟩,⟨.some 15,.mov (.t 0),.some ((.t 14),.false)⟩,⟨.some 16,.len .true (.t 15),.some ((.t 14),.false)⟩,⟨.some 17,.bin .gtr (.t 16) (.c (.int .i64 13)),.some ((.t 14),.false)⟩,⟨.some 18,.pick (.t 14) (.c (.bool .true)) (.t 17),.none⟩]) (.cond (.t 18) (.seq (.reg .false [⟨.some 2,.mov (.c (.int .i64 0)),.none⟩,⟨.some 3,.mov (.c (.bool .false)),.none⟩]) .ret) .skip)) (.seq (.reg .false [⟨.some 20,.mov (.t 0),.none⟩,⟨.some 21,.call (.c (.fn 100 [])) [.t 20],.none⟩,⟨.some 19,.mov (.t 21),.none⟩,⟨.some 22,.ext 0 (.t 19),.none⟩,⟨.some 23,.ext 1 (.t 19),.none⟩,⟨.some 4,.mov (.t 22),.none⟩,⟨.some 5,.mov (.t 23),.none⟩]) (.seq (.reg .false [⟨.some 24,.mov (.t 4),.none⟩,⟨.some 25,.mov (.t 4),.none⟩,⟨.some 26,.bin .leq (.t 25) (.c (.int .i64 1099511627776)),.none⟩,⟨.some 2,.mov (.t 24),.none⟩,⟨.some 3,.mov (.t 26),.none⟩]) .ret))),[.tmp (.t 2),.tmp (.t 3)]⟩
theorem e78 : cfn Tryd.prog Tryd.f78 = some c78 := by kernel_rfl
theorem k78 : callable Tryd.prog 78 = true := by kernel_rfl
def c82 : VFn := ⟨56,.seq (.reg .false [⟨.some 1,.box 34 12 (.t 0),.none⟩,⟨.some 2,.mov (.c (.bool .false)),.none⟩]) (.seq (.reg .false [⟨.some 6,.build [.int .i64 0,.int .i64 0] [(0,(1,(.c (.int .i64 0)))),(1,(1,(.c (.int .i64 1099511627776))))],.none⟩,⟨.some 7,.build [.int .i64 0,.int .i64 0] [(0,(1,(.c (.int .i64 1)))),(1,(1,(.c (.int .i64 1099511627776))))],.none⟩,⟨.some 3,.alloc 125 2 (.agg [.int .i64 0,.int .i64 0]),.none⟩,⟨.some 4,.alloc 125 2 (.agg [.int .i64 0,.int .i64 0]),.none⟩,⟨.none,.store 2 (.t 3) (.t 6),.none⟩,⟨.none,.store 2 (.t 4) (.t 7),.none⟩]) (.seq (.reg .false [⟨.some 8,.load .true 2 (.t 3),.none⟩,⟨.some 9,.fldA .false 0 1 (.t 1),.none⟩,⟨.some 10,.load .false 1 (.t 9),.none⟩,⟨.some 11,.fldA .false 1 1 (.t 1),.none⟩,⟨.some 12,.load .false 1 (.t 11),.none⟩,⟨.some 13,.fldA .false 2 1 (.t 1),.none⟩,⟨.some 14,.load .false 1 (.t 13),.none⟩,⟨.some 15,.fldA .false 3 1 (.t 1),.none⟩,⟨.some 16,.load .false 1 (.t 15),.none⟩,⟨.some 17,.fldA .false 4 1 (.t 1),.none⟩,⟨.some 18,.load .false 1 (.t 17),.none⟩,⟨.some 19,.fldA .false 7 1 (.t 1),.none⟩,⟨.some 20,.load .false 1 (.t 19),.none⟩,⟨.some 21,.bslice 3 1 [.t 10,.t 12,.t 14,.t 16,.t 18,.t 20],.none⟩,⟨.some 22,.call (.c (.fn 83 [])) [.t 8,.t 21],.none⟩,⟨.some 23,.mov (.t 22),.none⟩,⟨.some 24,.load .true 2 (.t 4),.some ((.t 23),.true)⟩,⟨.some 25,.fldA .false 5 1 (.t 1),.some ((.t 23),.true)⟩,⟨.some 26,.load .false 1 (.t 25),.some ((.t 23),.true)⟩,⟨.some 27,.fldA .false 6 1 (.t 1),.some ((.t 23),.true)⟩,⟨.some 28,.load .false 1 (.t 27),.some ((.t 23),.true)⟩,⟨.some 29,.bslice 3 1 [.t 26,.t 28],.some ((.t 23),.true)⟩,⟨.some 30,.call (.c (.fn 83 [])) [.t 24,.t 29],.some ((.t 23),.true)⟩,⟨.some 31,.pick (.t 23) (.t 30) (.c (.bool .false)),.none⟩,⟨.some 5,.mov (.t 31),.none⟩]) (.seq (.reg .false [⟨.some 32,.mov (.t 5),.none⟩,⟨.some 33,.mov (.t 32),.none⟩,⟨.some 34,.build [.int .i64 0,.int .i64 0] [(0,(1,(.c (.int .i64 0)))),(1,(1,(.c (.int .i64 4))))],.some ((.t 33),.true)⟩,⟨.some 35,.fldA .false 8 1 (.t 1),.some ((.t 33),.true)⟩,⟨.some 36,.load .false 1 (.t 35),.some ((.t 33),.true)⟩,⟨.some 37,.fldA .false 9 1 (.t 1),.some ((.t 33),.true)⟩,⟨.some 38,.load .false 1 (.t 37),.some ((.t 33),.true)⟩,⟨.some 39,.bslice 3 1 [.t 36,.t 38],.some ((.t 33),.true)⟩,⟨.some 40,.call (.c (.fn 83 [])) [.t 34,.t 39],.some ((.t 33),.true)⟩,⟨.some 41,.pick (.t 33) (.t 40) (.c (.bool .false)),.none⟩,⟨.some 42,.mov (.t 41),.none⟩,⟨.some 43,.build [.int .i64 0,.int .i64 0] [(0,(1,(.c (.int .i64 0)))),(1,(1,(.c (.int .i64 1))))],.some ((.t 42),.true)⟩,⟨.some 44,.fldA .false 10 1 (.t 1),.some ((.t 42),.true)⟩,⟨.some 45,.load .false 1 (.t 44),.some ((.t 42),.true)⟩,⟨.some 46,.bslice 3 1 [.t 45],.some ((.t 42),.true)⟩,⟨.some 47,.call (.c (.fn 83 [])) [.t 43,.t 46],.some ((.t 42),.true)⟩,⟨.some 48,.pick (.t 42) (.t 47) (.c (.bool .false)),.none⟩,⟨.some 49,.mov (.t 48),.none⟩,⟨.some 50,.build [.int .i64 0,.int .i64 0] [(0,(1,(.c (.int .i64 0)))),(1,(1,(.c (.int .i64 3))))],.some ((.t 49),.true)⟩,⟨.some 51,.fldA .false 11 1 (.t 1),.some ((.t 49),.true)⟩,⟨.some 52,.load .false 1 (.t 51),.some ((.t 49),.true)⟩,⟨.some 53,.bslice 3 1 [.t 52],.some ((.t 49),.true)⟩,⟨.some 54,.call (.c (.fn 83 [])) [.t 50,.t 53],.some ((.t 49),.true)⟩,⟨.some 55,.pick (.t 49) (.t 54) (.c (.bool .false)),.none⟩,⟨.some 2,.mov (.t 55),.none⟩]) .ret))),[.tmp (.t 2)]⟩
theorem e82 : cfn Tryd.prog Tryd.f82 = some c82 := by kernel_rfl
theorem k82 : callable Tryd.prog 82 = true := by kernel_rfl
def c83 : VFn := ⟨9,.seq (.reg .false [⟨.some 2,.box 125 2 (.t 0),.none⟩,⟨.some 4,.mov (.c (.bool .false)),.none⟩]) (.seq (.reg .false [⟨.some 5,.mov (.t 1),.none⟩,⟨.some 6,.mkfn 103 [.t 2],.none⟩,⟨.some 7,.call (.c (.fn 102 [])) [.t 5,.t 6],.none⟩,⟨.some 8,.not (.t 7),.none⟩,⟨.some 4,.mov (.t 8),.none⟩]) .ret),[.tmp (.t 4)]⟩
theorem e83 : cfn Tryd.prog Tryd.f83 = some c83 := by kernel_rfl
theorem k83 : callable Tryd.prog 83 = true := by kernel_rfl
def c84 : VFn := ⟨66,.seq (.reg .false [⟨.some 1,.box 34 12 (.t 0),.none⟩,⟨.some 2,.alloc 130 36 (.agg [.int .u8 0,.int .i64 0,.int .i64 0,.int .u8 0,.int .i64 0,.int .i64 0,.int .u8 0,.int .i64 0,.int .i64 0,.int .u8 0,.int .i64 0,.int .i64 0,.int .u8 0,.int .i64 0,.int .i64 0,.int .u8 0,.int .i64 0,.int .i64 0,.int .u8 0,.int .i64 0,.int .i64 0,.int .u8 0,.int .i64 0,.int .i64 0,.int .u8 0,.int .i64 0,.int .i64 0,.int .u8 0,.int .i64 0,.int .i64 0,.int .u8 0,.int .i64 0,.int .i64 0,.int .u8 0,.int .i64 0,.int .i64 0]),.none⟩]) (.seq (.reg .false [⟨.some 4,.call (.c (.fn 59 [])) [],.none⟩,⟨.some 3,.alloc 34 12 (.agg [.int .i64 0,.int .i64 0,.int .i64 0,.int .i64 0,.int .i64 0,.int .i64 0,.int .i64 0,.int .i64 0,.int .i64 0,.int .i64 0,.int .i64 0,.int .i64 0]),.none⟩,⟨.none,.store 12 (.t 3) (.t 4),.none⟩]) (.seq (.reg .false [⟨.some 5,.fldA .false 0 1 (.t 1),.none⟩,⟨.some 6,.load .false 1 (.t 5),.none⟩,⟨.some 7,.fldA .false 0 1 (.t 3),.none⟩,⟨.some 8,.load .false 1 (.t 7),.none⟩,⟨.some 9,.build [.int .u8 0,.int .i64 0,.int .i64 0] [(0,(1,(.c (.int .u8 109)))),(1,(1,(.t 6))),(2,(1,(.t 8)))],.none⟩,⟨.some 10,.fldA .false 1 1 (.t 1),.none⟩,⟨.some 11,.load .false 1 (.t 10),.none⟩,⟨.some 12,.fldA .false 1 1 (.t 3),.none⟩,⟨.some 13,.load .false 1 (.t 12),.none⟩,⟨.some 14,.build [.int .u8 0,.int .i64 0,.int .i64 0] [(0,(1,(.c (.int .u8 110)))),(1,(1,(.t 11))),(2,(1,(.t 13)))],.none⟩,⟨.some 15,.fldA .false 2 1 (.t 1),.none⟩,⟨.some 16,.load .false 1 (.t 15),.none⟩,⟨.some 17,.fldA .false 2 1 (.t 3),.none⟩,⟨.some 18,.load .false 1 (.t 17),.none⟩,⟨.some 19,.build [.int .u8 0,.int .i64 0,.int .i64 0] [(0,(1,(.c (.int .u8 112)))),(1,(1,(.t 16))),(2,(1,(.t 18)))],.none⟩,⟨.some 20,.fldA .false 3 1 (.t 1),.none⟩,⟨.some 21,.load .false 1 (.t 20),.none⟩,⟨.some 22,.fldA .false 3 1 (.t 3),.none⟩,⟨.some 23,.load .false 1 (.t 22),.none⟩,⟨.some 24,.build [.int .u8 0,.int .i64 0,.int .i64 0] [(0,(1,(.c (.int .u8 113)))),(1,(1,(.t 21))),(2,(1,(.t 23)))],.none⟩,⟨.some 25,.fldA .false 4 1 (.t 1),.none⟩,⟨.some 26,.load .false 1 (.t 25),.none⟩,⟨.some 27,.fldA .false 4 1 (.t 3),.none⟩,⟨.some 28,.load .false 1 (.t 27),.none⟩,⟨.some 29,.build [.int .u8 0,.int .i64 0,.int .i64 0] [(0,(1,(.c (.int .u8 105)))),(1,(1,(.t 26))),(2,(1,(.t 28)))],.none⟩,⟨.some 30,.fldA .false 5 1 (.t 1),.none⟩,⟨.some 31,.load .false 1 (.t 30),.none⟩,⟨.some 32,.fldA .false 5 1 (.t 3),.none⟩,⟨.some 33,.load .false 1 (.t 32),.none⟩,⟨.some 34,.build [.int .u8 0,.int .i64 0,.int .i64 0] [(0,(1,(.c (.int .u8 111)))),(1,(1,(.t 31))),(2,(1,(.t 33)))],.none⟩,⟨.some 35,.fldA .false 6 1 (.t 1),.none⟩,⟨.some 36,.load .false 1 (.t 35),.none⟩,⟨.some 37,.fldA .false 6 1 (.t 3),.none⟩,⟨.some 38,.load .false 1 (.t 37),.none⟩,⟨.some 39,.build [.int .u8 0,.int .i64 0,.int .i64 0] [(0,(1,(.c (.int .u8 119)))),(1,(1,(.t 36))),(2,(1,(.t 38)))],.none⟩,⟨.some 40,.fldA .false 7 1 (.t 1),.none⟩,⟨.some 41,.load .false 1 (.t 40),.none⟩,⟨.some 42,.fldA .false 7 1 (.t 3),.none⟩,⟨.some 43,.load .false 1 (.t 42),.none⟩,⟨.some 44,.build [.int .u8 0,.int .i64 0,.int .i64 0] [(0,(1,(.c (.int .u8 104)))),(1,(1,(.t 41))),(2,(1,(.t 43)))],.none⟩,⟨.some 45,.fldA .false 8 1 (.t 1),.none⟩,⟨.some 46,.load .false 1 (.t 45),.none⟩,⟨.some 47,.fldA .false 8 1 (.t 3),.none⟩,⟨.some 48,.load .false 1 (.t 47),.none⟩,⟨.some 49,.build [.int .u8 0,.int .i64 0,.int .i64 0] [(0,(1,(.c (.int .u8 66)))),(1,(1,(.t 46))),(2,(1,(.t 48)))],.none⟩,⟨.some 50,.fldA .false 9 1 (.t 1),.none⟩,⟨.some 51,.load .false 1 (.t 50),.none⟩,⟨.some 52,.fldA .false 9 1 (.t 3),.none⟩,⟨.some 53,.load .false 1 (.t 52),.none⟩,⟨.some 54,.build [.int .u8 0,.int .i64 0,.int .i64 0] [(0,(1,(.c (.int .u8 65)))),(1,(1,(.t 51))),(2,(1,(.t 53)))],.none⟩,⟨.some 55,.fldA .false 10 1 (.t 1),.none⟩,⟨.some 56,.load .false 1 (.t 55),.none⟩,⟨.some 57,.fldA .false 10 1 (.t 3),.none⟩,⟨.some 58,.load .false 1 (.t 57),.none⟩,⟨.some 59,.build [.int .u8 0,.int .i64 0,.int .i64 0] [(0,(1,(.c (.int .u8 73)))),(1,(1,(.t 56))),(2,(1,(.t 58)))],.none⟩,⟨.some 60,.fldA .false 11 1 (.t 1),.none⟩,⟨.some 61,.load .false 1 (.t 60),.none⟩,⟨.some 62,.fldA .false 11 1 (.t 3),.none⟩,⟨.some 63,.load .false 1 (.t 62),.none⟩,⟨.some 64,.build [.int .u8 0,.int .i64 0,.int .i64 0] [(0,(1,(.c (.int .u8 99)))),(1,(1,(.t 61))),(2,(1,(.t 63)))],.none⟩,⟨.some 65,.build [.int .u8 0,.int .i64 0,.int .i64 0,.int .u8 0,.int .i64 0,.int .i64 0,.int .u8 0,.int .i64 0,.int .i64 0,.int .u8 0,.int .i64 0,.int .i64 0,.int .u8 0,.int .i64 0,.int .i64 0,.int .u8 0,.int .i64 0,.int .i64 0,.int .u8 0,.int .i64 0,.int .i64 0,.int .u8 0,.int .i64 0,.int .i64 0,.int .u8 0,.int .i64 0,.int .i64 0,.int .u8 0,.int .i64 0,.int .i64 0,.int .u8 0,.int .i64 0,.int .i64 0,.int .u8 0,.int .i64 0,.int .i64 0] [(0,(3,(.t 9))),(3,(3,(.t 14))),(6,(3,(.t 19))),(9,(3,(.t 24))),(12,(3,(.t 29))),(15,(3,(.t 34))),(18,(3,(.t 39))),(21,(3,(.t 44))),(24,(3,(.t 49))),(27,(3,(.t 54))),(30,(3,(.t 59))),(33,(3,(.t 64)))],.none⟩,⟨.none,.store 36 (.t 2) (.t 65),.none⟩]) .ret)),[.cell .true 36 (.t 2)]⟩
theorem e84 : cfn Tryd.prog Tryd.f84 = some c84 := by kernel_rfl
theorem k84 : callable Tryd.prog 84 = true := by kernel_rfl
def c85 : VFn := ⟨26,.seq (.reg .false [⟨.some 6,.mov (.t 1),.none⟩,⟨.some 7,.len .false (.t 6),.none⟩,⟨.some 8,.mov (.c (.int .i64 0)),.none⟩]) (.block 0 (.loop (.seq (.reg .false [⟨.some 9,.bin .lss (.t 8) (.t 7),.none⟩]) (.seq (.cond (.t 9) .skip (.exit 0)) (.seq (.block 1 (.seq (.reg .false [⟨.some 10,.mov (.t 8),.none⟩,⟨.some 11,.idxA 1 (.t 6) (.t 8),.none⟩,⟨.some 12,.load .false 1 (.t 11),.none⟩,⟨.some 4,.mov (.t 10),.none⟩,⟨.some 5,.mov (.t 12),.none⟩]) (.seq (.seq (.reg .false [⟨.some 13,.mov (.t 4),.none⟩,⟨.some 14,.bin .gtr (.t 13) (.c (.int .i64 0)),.none⟩]) (.cond (.t 14) (.reg .false [⟨.some 15,.mov (.t 0),.none⟩,⟨.some 16,.nilCheck (.t 15),.none⟩,⟨.some 17,.fldA .true 0 2 (.t 16),.none⟩,⟨.some 18,.call (.c (.fn 53 [])) [.t 17,.c (.int .u8 32)],.none⟩]) .skip)) (.regL [⟨.some 19,.mov (.t 0),.none⟩,⟨.some 20,.nilCheck (.t 19),.none⟩,⟨.some 21,.fldA .true 0 2 (.t 20),.none⟩,⟨.some 22,.mov (.t 5),.none⟩,⟨.some 23,.call (.c (.fn 104 [])) [.t 22],.none⟩] [⟨.some 24,.call (.c (.fn 55 [])) [.t 21,.t 23],.none⟩])))) (.reg .false [⟨.some 25,.bin .add (.t 8) (.c (.int .i64 1)),.none⟩,⟨.some 8,.mov (.t 25),.none⟩])))))),[]⟩
theorem e85 : cfn Tryd.prog Tryd.f85 = some c85 := by kernel_rfl
theorem k85 : callable Tryd.prog 85 = true := by kernel_rfl
def c87 : VFn := ⟨141,.seq (.reg .false [⟨.some 1,.box 37 20 (.t 0),.none⟩,⟨.some 2,.mov (.c (.bool .false)),.none⟩]) (.seq (.reg .false [⟨.some 3,.mov (.c (.int .i64 1099511627776)),.none⟩]) (.seq (.seq (.reg .false [⟨.some 5,.fldA .false 0 1 (.t 1),.none⟩,⟨.some 6,.load .false 1 (.t 5),.none⟩,⟨.some 7,.bin .eql (.t 6) (.c (.int .i64 1)),.none⟩]) (.cond (.t 7) (.seq (.reg .false [⟨.some 8,.fldA .true 2 12 (.t 1),.none⟩,⟨.some 9,.load .true 12 (.t 8),.none⟩,⟨.some 10,.call (.c (.fn 106 [])) [.t 9],.none⟩,⟨.some 11,.mov (.t 10),.none⟩,⟨.some 12,.fldA .false 14 1 (.t 1),.some ((.t 11),.true)⟩,⟨.some 13,.load .false 1 (.t 12),.some ((.t 11),.true)⟩,⟨.some 14,.bin .eql (.t 13) (.c (.int .i64 0)),.some ((.t 11),.true)⟩,⟨.some 15,.pick (.t 11) (.t 14) (.c (.bool .false)),.none⟩,⟨.some 16,.mov (.t 15),.none⟩,⟨.some 17,.fldA .false 15 1 (.t 1),.some ((.t 16),.true)⟩,⟨.some 18,.load .false 1 (.t 17),.some ((.t 16),.true)⟩,⟨.some 19,.bin .eql (.t 18) (.c (.int .i64 0)),.some ((.t 16),.true)⟩,⟨.some 20,.pick (.t 16) (.t 19) (.c (.bool .false)),.none⟩,⟨.some 21,.mov (.t 20),.none⟩,⟨.some 22,.fldA .false 16 1 (.t 1),.some ((.t 21),.true)⟩,⟨.some 23,.load .false 1 (.t 22),.some ((.t 21),.true)⟩,⟨.some 24,.len .false (.t 23),.some ((.t 21),.true)⟩,⟨.some 25,.bin .eql (.t 24) (.c (.int .i64 0)),.some ((.t 21),.true)⟩,⟨.some 26,.pick (.t 21) (.t 25) (.c (.bool .false)),.none⟩,⟨.some 27,.mov (.t 26),.none⟩,⟨.some 28,.fldA .false 17 1 (.t 1),.some ((.t 27),.true)⟩,⟨.some 29,.load .false 1 (.t 28),.some ((.t 27),.true)⟩,⟨.some 30,.bin .eql (.t 29) (.c (.int .i64 0)),.some ((.t 27),.true)⟩,⟨.some 31,.pick (.t 27) (.t 30) (.c (.bool .false)),.none⟩,⟨.some 32,.mov (.t 31),.none⟩,⟨.some 33,.fldA .false 18 1 (.t 1),.some ((.t 32),.true)⟩,⟨.some 34,.load .false 1 (.t 33),.some ((.t 32),.true)⟩,⟨.some 35,.bin .eql (.t 34) (.c (.int .i64 0)),.some ((.t 32),.true)⟩,⟨.some 36,.pick (.t 32) (.t 35) (.c (.bool .false)),.none⟩,⟨.some 37,.mov (.t 36),.none⟩,⟨.some 38,.fldA .false 19 1 (.t 1),.some ((.t 37),.true)⟩,⟨.some 39,.load .false 1 (.t 38),.some ((.t 37),.true)⟩,⟨.some 40,.bin .eql (.t 39) (.c (.int .i64 0)),.some ((.t 37),.true)⟩,⟨.some 41,.pick (.t 37) (.t 40) (.c (.bool .false)),.none⟩,⟨.some 2,.mov (.t 41),.none⟩]) .ret) .skip)) (.seq (.seq (.reg .false [⟨.some 42,.fldA .true 2 12 (.t 1),.none⟩,⟨.some 43,.load .true 12 (.t 42),.none⟩,⟨.some 44,.build [.int .i64 0,.int .i64 0,.int .i64 0,.int .i64 0,.int .i64 0,.int .i64 0,.int .i64 0,.int .i64 0,.int .i64 0,.int .i64 0,.int .i64 0,.int .i64 0] [],.none⟩,⟨.some 45,.eqS .true [0,0,0,0,0,0,0,0,0,0,0,0] (.t 43) (.t 44),.none⟩]) (.cond (.t 45) (.seq (.reg .false [⟨.some 2,.mov (.c (.bool .false)),.none⟩]) .ret) .skip)) (.seq (.seq (.reg .false [⟨.some 46,.fldA .false 0 1 (.t 1),.none⟩,⟨.some 47,.load .false 1 (.t 46),.none⟩,⟨.some 48,.bin .eql (.t 47) (.c (.int .i64 2)),.none⟩]) (.cond (.t 48) (.seq (.seq (.reg .false [⟨.some 4,.mov (.c (.int .i64 0)),.none⟩]) (.block 0 (.loop (.seq (.seq (.reg .false [⟨.some 49,.mov (.t 4),.none⟩,⟨.some 50,.fldA .false 16 1 (.t 1),.none⟩,⟨.some 51,.load .false 1 (.t 50),.none⟩,⟨.some 52,.len .false (.t 51),.none⟩,⟨.some 53,.bin .lss (.t 49) (.t 52),.none⟩]) (.cond (.t 53) .skip (.exit 0))) (.seq (.block 1 (.seq (.reg .false [⟨.some 56,.fldA .false 16 1 (.t 1),.none⟩,⟨.some 57,.load .false 1 (.t 56),.none⟩,⟨.some 58,.mov (.t 4),.none⟩,⟨.some 59,.idxA 1 (.t 57) (.t 58),.none⟩,⟨.some 60,.load .false 1 (.t 59),.none⟩,⟨.some 61,.mov (.t 3),.none⟩,⟨.some 62,.call (.c (.fn 107 [])) [.t 60,.c (.int .i64 1),.t 61],.none⟩,⟨.some 63,.not (.t 62),.none⟩]) (.cond (.t 63) (.seq (.reg .false [⟨.some 2,.mov (.c (.bool .false)),.none⟩]) .ret) .skip))) (.reg .false [⟨.some 54,.mov (.t 4),.none⟩,⟨.some 55,.bin .add (.t 54) (.c (.int .i64 1)),.none⟩,⟨.some 4,.mov (.t 55),.none⟩])))))) (.seq (.reg .false [⟨.some 64,.fldA .false 16 1 (.t 1),.none⟩,⟨.some 65,.load .false 1 (.t 64),.none⟩,⟨.some 66,.len .false (.t 65),.none⟩,⟨.some 67,.bin .gtr (.t 66) (.c (.int .i64 0)),.none⟩,⟨.some 68,.mov (.t 67),.none⟩,⟨.some 69,.fldA .false 14 1 (.t 1),.some ((.t 68),.true)⟩,⟨.some 70,.load .false 1 (.t 69),.some ((.t 68),.true)⟩,⟨.some 71,.mov (.t 3),.some ((.t 68),.true)⟩,⟨.some 72,.call (.c (.fn 107 [])) [.t 70,.c (.int .i64 1),.t 71],.some ((.t 68),.true)⟩,⟨.some 73,.pick (.t 68) (.t 72) (.c (.bool .false)),.none⟩,⟨.some 74,.mov (.t 73),.none⟩,⟨.some 75,.fldA .false 15 1 (.t 1),.some ((.t 74),.true)⟩,⟨.some 76,.load .false 1 (.t 75),.some ((.t 74),.true)⟩,⟨.some 77,.mov (.t 3),.some ((.t 74),.true)⟩,⟨.some 78,.call (.c (.fn 107 [])) [.t 76,.c (.int .i64 0),.t 77],.some ((.t 74),.true)⟩,⟨.some 79,.pick (.t 74) (.t 78) (.c (.bool .false)),.none⟩,⟨.some 80,.mov (.t 79),.none⟩,⟨.some 81,.fldA .false 17 1 (.t 1),.some ((.t 80),.true)⟩,⟨.some 82,.load .false 1 (.t 81),.some ((.t 80),.true)⟩,⟨.some 83,.bin .eql (.t 82) (.c (.int .i64 0)),.some ((.t 80),.true)⟩,⟨.some 84,.pick (.t 80) (.t 83) (.c (.bool .false)),.none⟩,⟨.some 85,.mov (.t 84),.none⟩,⟨.some 86,.fldA .false 18 1 (.t 1),.some ((.t 85),.true)⟩,⟨.some 87,.load .false 1 (.t 86),.some ((.t 85),.true)⟩,⟨.some 88,.bin .eql (.t 87) (.c (.int .i64 0)),.some ((.t 85),.true)⟩,⟨.some 89,.pick (.t 85) (.t 88) (.c (.bool .false)),.none⟩,⟨.some 90,.mov (.t 89),.none⟩,⟨.some 91,.fldA .false 19 1 (.t 1),.some ((.t 90),.true)⟩,⟨.some 92,.load .false 1 (.t 91),.some ((.t 90),.true)⟩,⟨.some 93,.bin .eql (.t 92) (.c (.int .i64 0)),.some ((.t 90),.true)⟩,⟨.some 94,.pick (.t 90) (.t 93) (.c (.bool .false)),.none⟩,⟨.some 2,.mov (.t 94),.none⟩]) .ret)) .skip)) (.seq (.seq (.reg .false [⟨.some 95,.fldA .false 14 1 (.t 1),.none⟩,⟨.some 96,.load .false 1 (.t 95),.none⟩,⟨.some 97,.bin .neq (.t 96) (.c (.int .i64 0)),.none⟩,⟨.some 98,.mov (.t 97),.none⟩,⟨.some 99,.fldA .false 15 1 (.t 1),.some ((.t 98),.false)⟩,⟨.some 100,.load .false 1 (.t 99),.some ((.t 98),.false)⟩,⟨.some 101,.bin .neq (.t 100) (.c (.int .i64 0)),.some ((.t 98),.false)⟩,⟨.some 102,.pick (.t 98) (.c (.bool .true)) (.t 101),.none⟩,⟨.some 103,.mov (.t 102),.none⟩,⟨.some 104,.fldA .false 16 1 (.t 1),.some ((.t 103),.false)⟩,⟨.some 105,.load .false 1 (.t 104),.some ((.t 103),.false)⟩,⟨.some 106,.len .false (.t 105),.some ((.t 103),.false)⟩,⟨.some 107,.bin .neq (.t 106) (.c (.int .i64 0)),.some ((.t 103),.false)⟩,⟨.some 108,.pick (.t 103) (.c (.bool .true)) (.t 107),.none⟩,⟨.some 109,.mov (.t 108),.none⟩,⟨.some 110,.fldA .false 18 1 (.t 1),.some ((.t 109),.false)⟩,⟨.some 111,.load .false 1 (.t 110),.some ((.t 109),.false)⟩,⟨.some 112,.mov (.t 3),.some ((.t 109),.false)⟩,⟨.some 113,.call (.c (.fn 107 [])) [.t 111,.c (.int .i64 1),.t 112],.some ((.t 109),.false)⟩,⟨.some 114,.not (.t 113),.some ((.t 109),.false)⟩,⟨.some 115,.pick (.t 109) (.c (.bool .true)) (.t 114),.none⟩,⟨.some 116,.mov (.t 115),.none⟩,⟨.some 117,.fldA .false 19 1 (.t 1),.some ((.t 116),.false)⟩,⟨.some 118,.load .false 1 (.t 117),.some ((.t 116),.false)⟩,⟨.some 119,.mov (.t 3),.some ((.t 116),.false)⟩,⟨.some 120,.call (.c (.fn 107 [])) [.t 118,.c (.int .i64 1),.t 119],.some ((.t 116),.false)⟩,⟨.some 121,.not (.t 120),.some ((.t 116),.false)⟩,⟨.some 122,.pick (.t 116) (.c (.bool .true)) (.t 121),.none⟩]) (.cond (.t 122) (.seq (.reg .false [⟨.some 2,.mov (.c (.bool .false)),.none⟩]) .ret) .skip)) (.seq (.reg .false [⟨.some 123,.fldA .false 0 1 (.t 1),.none⟩,⟨.some 124,.load .false 1 (.t 123),.none⟩,⟨.some 125,.bin .eql (.t 124) (.c (.int .i64 3)),.none⟩,⟨.some 126,.mov (.t 125),.none⟩,⟨.some 127,.fldA .false 17 1 (.t 1),.some ((.t 126),.true)⟩,⟨.some 128,.load .false 1 (.t 127),.some ((.t 126),.true)⟩,⟨.some 129,.bin .eql (.t 128) (.c (.int .i64 0)),.some ((.t 126),.true)⟩,⟨.some 130,.pick (.t 126) (.t 129) (.c (.bool .false)),.none⟩,⟨.some 131,.mov (.t 130),.none⟩,⟨.some 132,.fldA .false 0 1 (.t 1),.some ((.t 131),.false)⟩,⟨.some 133,.load .false 1 (.t 132),.some ((.t 131),.false)⟩,⟨.some 134,.bin .eql (.t 133) (.c (.int .i64 4)),.some ((.t 131),.false)⟩,⟨.some 135,.mov (.t 134),.some ((.t 131),.false)⟩,⟨.some 136,.fldA .false 17 1 (.t 1),.some ((.t 135),.true)⟩,⟨.some 137,.load .false 1 (.t 136),.some ((.t 135),.true)⟩,⟨.some 138,.call (.c (.fn 107 [])) [.t 137,.c (.int .i64 1),.c (.int .i64 2)],.some ((.t 135),.true)⟩,⟨.some 139,.pick (.t 135) (.t 138) (.c (.bool .false)),.some ((.t 131),.false)⟩,⟨.some 140,.pick (.t 131) (.c (.bool .true)) (.t 139),.none⟩,⟨.some 2,.mov (.t 140),.none⟩]) .ret)))))),[.tmp (.t 2)]⟩
theorem e87 : cfn Tryd.prog Tryd.f87 = some c87 := by kernel_rfl
theorem k87 : callable Tryd.prog 87 = true := by kernel_rfl
def c88 : VFn := ⟨51,.seq (.reg .false [⟨.some 6,.mov (.c (.bool .false)),.none⟩]) (.seq (.block 0 (.loop (.seq (.seq (.reg .false [⟨.some 8,.mov (.t 1),.none⟩,⟨.some 9,.mov (.t 2),.none⟩,⟨.some 10,.bin .lss (.t 8) (.t 9),.none⟩]) (.cond (.t 10) .skip (.exit 0))) (.block 1 (.seq (.reg .false [⟨.some 11,.mov (.t 0),.none⟩,⟨.some 12,.mov (.t 1),.none⟩,⟨.some 13,.idxA 20 (.t 11) (.t 12),.none⟩,⟨.some 14,.load .true 20 (.t 13),.none⟩,⟨.some 7,.alloc 37 20 (.agg [.int .i64 0,.int .i64 0,.int .i64 0,.int .i64 0,.int .i64 0,.int .i64 0,.int .i64 0,.int .i64 0,.int .i64 0,.int .i64 0,.int .i64 0,.int .i64 0,.int .i64 0,.int .i64 0,.int .i64 0,.int .i64 0,.nils,.int .i64 0,.int .i64 0,.int .i64 0]),.none⟩,⟨.none,.store 20 (.t 7) (.t 14),.none⟩]) (.seq (.seq (.reg .false [⟨.some 15,.fldA .false 1 1 (.t 7),.none⟩,⟨.some 16,.load .false 1 (.t 15),.none⟩,⟨.some 17,.bin .lss (.t 16) (.c (.int .i64 1)),.none⟩,⟨.some 18,.mov (.t 17),.none⟩,⟨.some 19,.fldA .false 1 1 (.t 7),.some ((.t 18),.false)⟩,⟨.some 20,.load .false 1 (.t 19),.some ((.t 18),.false)⟩,⟨.some 21,.mov (.t 2),.some ((.t 18),.false)⟩,⟨.some 22,.mov (.t 1),.some ((.t 18),.false)⟩,⟨.some 23,.bin .sub (.t 21) (.t 22),.some ((.t 18),.false)⟩,⟨.some 24,.bin .gtr (.t 20) (.t 23),.some ((.t 18),.false)⟩,⟨.some 25,.pick (.t 18) (.c (.bool .true)) (.t 24),.none⟩,⟨.some 26,.mov (.t 25),.none⟩,⟨.some 27,.fldA .false 0 1 (.t 7),.some ((.t 26),.false)⟩,⟨.some 28,.load .false 1 (.t 27),.some ((.t 26),.false)⟩,⟨.some 29,.bin .neq (.t 28) (.c (.int .i64 1)),.some ((.t 26),.false)⟩,⟨.some 30,.mov (.t 29),.some ((.t 26),.false)⟩,⟨.some 31,.fldA .false 1 1 (.t 7),.some ((.t 30),.true)⟩,⟨.some 32,.load .false 1 (.t 31),.some ((.t 30),.true)⟩,⟨.some 33,.bin .gtr (.t 32) (.c (.int .i64 1)),.some ((.t 30),.true)⟩,⟨.some 34,.pick (.t 30) (.t 33) (.c (.bool .false)),.some ((.t 26),.false)⟩,⟨.some 35,.pick (.t 26) (.c (.bool .true)) (.t 34),.none⟩,⟨.some 36,.mov (.t 35),.none⟩,⟨.some 37,.mov (.t 0),.some ((.t 36),.false)⟩,⟨.some 38,.mov (.t 1),.some ((.t 36),.false)⟩,⟨.some 39,.bin .add (.t 38) (.c (.int .i64 1)),.some ((.t 36),.false)⟩,⟨.some 40,.mov (.t 1),.some ((.t 36),.false)⟩,⟨.some 41,.fldA .false 1 1 (.t 7),.some ((.t 36),.false)⟩,⟨.some 42,.load .false 1 (.t 41),.some ((.t 36),.false)⟩,⟨.some 43,.bin .add (.t 40) (.t 42),.some ((.t 36),.false)⟩,⟨.some 44,.call (.c (.fn 88 [])) [.t 37,.t 39,.t 43],.some ((.t 36),.false)⟩,⟨.some 45,.not (.t 44),.some ((.t 36),.false)⟩,⟨.some 46,.pick (.t 36) (.c (.bool .true)) (.t 45),.none⟩]) (.cond (.t 46) (.seq (.reg .false [⟨.some 6,.mov (.c (.bool .false)),.none⟩]) .ret) .skip)) (.reg .false [⟨.some 47,.mov (.t 1),.none⟩,⟨.some 48,.fldA .false 1 1 (.t 7),.none⟩,⟨.some 49,.load .false 1 (.t 48),.none⟩,⟨.some 50,.bin .add (.t 47) (.t 49),.none⟩,⟨.some 1,.mov (.t 50),.none⟩]))))))) (.seq (.reg .false [⟨.some 6,.mov (.c (.bool .true)),.none⟩]) .ret)),[.tmp (.t 6)]⟩
theorem e88 : cfn Tryd.prog Tryd.f88 = some c88 := by kernel_rfl
theorem k88 : callable Tryd.prog 88 = true := by kernel_rfl
def c89 : VFn := ⟨50,.seq (.reg .false [⟨.some 1,.box 34 12 (.t 0),.none⟩,⟨.some 2,.mov (.c (.str [])),.none⟩]) (.seq (.reg .true [⟨.some 3,.fldA .false 0 1 (.t 1),.none⟩,⟨.some 4,.load .false 1 (.t 3),.none⟩,⟨.some 5,.call (.c (.fn 108 [])) [.c (.str [109]),.t 4,.c (.int .i64 0)],.none⟩,⟨.some 6,.fldA .false 1 1 (.t 1),.none⟩,⟨.some 7,.load .false 1 (.t 6),.none⟩,⟨.some 8,.call (.c (.fn 108 [])) [.c (.str [110]),.t 7,.c (.int .i64 0)],.none⟩,⟨.some 9,.bin .add (.t 5) (.t 8),.none⟩,⟨.some 10,.fldA .false 2 1 (.t 1),.none⟩,⟨.some 11,.load .false 1 (.t 10),.none⟩,⟨.some 12,.call (.c (.fn 108 [])) [.c (.str [112]),.t 11,.c (.int .i64 0)],.none⟩,⟨.some 13,.bin .add (.t 9) (.t 12),.none⟩,⟨.some 14,.fldA .false 3 1 (.t 1),.none⟩,⟨.some 15,.load .false 1 (.t 14),.none⟩,⟨.some 16,.call (.c (.fn 108 [])) [.c (.str [113]),.t 15,.c (.int .i64 0)],.none⟩,⟨.some 17,.bin .add (.t 13) (.t 16),.none⟩,⟨.some 18,.fldA .false 4 1 (.t 1),.none⟩,⟨.some 19,.load .false 1 (.t 18),.none⟩,⟨.some 20,.call (.c (.fn 108 [])) [.c (.str [105]),.t 19,.c (.int .i64 0)],.none⟩,⟨.some 21,.bin .add (.t 17) (.t 20),.none⟩,⟨.some 22,.fldA .false 5 1 (.t 1),.none⟩,⟨.some 23,.load .false 1 (.t 22),.none⟩,⟨.some 24,.call (.c (.fn 108 [])) [.c (.str [111]),.t 23,.c (.int .i64 2)],.none⟩,⟨.some 25,.bin .add (.t 21) (.t 24),.none⟩,⟨.some 26,.fldA .false 6 1 (.t 1),.none⟩,⟨.some 27,.load .false 1 (.t 26),.none⟩,⟨.some 28,.call (.c (.fn 108 [])) [.c (.str [119]),.t 27,.c (.int .i64 2)],.none⟩,⟨.some 29,.bin .add (.t 25) (.t 28),.none⟩,⟨.some 30,.fldA .false 7 1 (.t 1),.none⟩,⟨.some 31,.load .false 1 (.t 30),.none⟩,⟨.some 32,.call (.c (.fn 108 [])) [.c (.str [104]),.t 31,.c (.int .i64 0)],.none⟩,⟨.some 33,.bin .add (.t 29) (.t 32),.none⟩,⟨.some 34,.fldA .false 8 1 (.t 1),.none⟩,⟨.some 35,.load .false 1 (.t 34),.none⟩,⟨.some 36,.call (.c (.fn 108 [])) [.c (.str [66]),.t 35,.c (.int .i64 0)],.none⟩,⟨.some 37,.bin .add (.t 33) (.t 36),.none⟩,⟨.some 38,.fldA .false 9 1 (.t 1),.none⟩,⟨.some 39,.load .false 1 (.t 38),.none⟩,⟨.some 40,.call (.c (.fn 108 [])) [.c (.str [65]),.t 39,.c (.int .i64 0)],.none⟩,⟨.some 41,.bin .add (.t 37) (.t 40),.none⟩,⟨.some 42,.fldA .false 10 1 (.t 1),.none⟩,⟨.some 43,.load .false 1 (.t 42),.none⟩,⟨.some 44,.call (.c (.fn 108 [])) [.c (.str [73]),.t 43,.c (.int .i64 0)],.none⟩,⟨.some 45,.bin .add (.t 41) (.t 44),.none⟩,⟨.some 46,.fldA .false 11 1 (.t 1),.none⟩,⟨.some 47,.load .false 1 (.t 46),.none⟩,⟨.some 48,.call (.c (.fn 108 [])) [.c (.str [99]),.t 47,.c (.int .i64 0)],.none⟩,⟨.some 49,.bin .add (.t 45) (.t 48),.none⟩,⟨.some 2,.mov (.t 49),.none⟩]) .ret),[.tmp (.t 2)]⟩
theorem e89 : cfn Tryd.prog Tryd.f89 = some c89 := by kernel_rfl
theorem k89 : callable Tryd.prog 89 = true := by kernel_rfl
def c90 : VFn := ⟨18,.seq (.reg .false [⟨.some 2,.mov (.c (.str [])),.none⟩]) (.seq (.reg .false [⟨.some 4,.mov (.t 0),.none⟩,⟨.some 5,.bin .rem (.t 4) (.c (.int .i64 10)),.none⟩,⟨.some 6,.bin .add (.c (.int .i64 48)) (.t 5),.none⟩,⟨.some 7,.convI .u8 (.t 6),.none⟩,⟨.some 8,.bslice 5 1 [.t 7],.none⟩,⟨.some 9,.bstr (.t 8),.none⟩,⟨.some 3,.mov (.t 9),.none⟩]) (.seq (.seq (.reg .false [⟨.some 10,.mov (.t 0),.none⟩,⟨.some 11,.bin .gtr (.t 10) (.c (.int .i64 9)),.none⟩]) (.cond (.t 11) (.seq (.reg .false [⟨.some 12,.mov (.t 0),.none⟩,⟨.some 13,.bin .quo (.t 12) (.c (.int .i64 10)),.none⟩,⟨.some 14,.call (.c (.fn 90 [])) [.t 13],.none⟩,⟨.some 15,.mov (.t 3),.none⟩,⟨.some 16,.bin .add (.t 14) (.t 15),.none⟩,⟨.some 2,.mov (.t 16),.none⟩]) .ret) .skip)) (.seq (.reg .false [⟨.some 17,.mov (.t 3),.none⟩,⟨.some 2,.mov (.t 17),.none⟩]) .ret))),[.tmp (.t 2)]⟩
theorem e90 : cfn Tryd.prog Tryd.f90 = some c90 := by kernel_rfl
theorem k90 : callable Tryd.prog 90 = true := by kernel_rfl
def c91 : VFn := ⟨91,.seq (.reg .false [⟨.some 1,.box 54 1 (.t 0),.none⟩,⟨.some 2,.alloc 34 12 (.agg [.int .i64 0,.int .i64 0,.int .i64 0,.int .i64 0,.int .i64 0,.int .i64 0,.int .i64 0,.int .i64 0,.int .i64 0,.int .i64 0,.int .i64 0,.int .i64 0]),.none⟩]) (.seq (.reg .false [⟨.some 8,.call (.c (.fn 59 [])) [],.none⟩,⟨.some 3,.alloc 34 12 (.agg [.int .i64 0,.int .i64 0,.int .i64 0,.int .i64 0,.int .i64 0,.int .i64 0,.int .i64 0,.int .i64 0,.int .i64 0,.int .i64 0,.int .i64 0,.int .i64 0]),.none⟩,⟨.none,.store 12 (.t 3) (.t 8),.none⟩]) (.seq (.reg .false [⟨.some 9,.mkfn 109 [.t 1],.none⟩,⟨.some 4,.mov (.t 9),.none⟩]) (.seq (.reg .false [⟨.some 10,.more .mkMap [],.none⟩,⟨.some 11,.mov (.t 4),.none⟩,⟨.some 12,.fldA .false 0 1 (.t 3),.none⟩,⟨.some 13,.call (.t 11) [.t 12,.c (.int .i64 0),.c (.int .i64 1099511627776)],.none⟩,⟨.none,.more .insM [.t 10,.c (.int .i32 109),.t 13],.none⟩,⟨.some 14,.mov (.t 4),.none⟩,⟨.some 15,.fldA .false 1 1 (.t 3),.none⟩,⟨.some 16,.call (.t 14) [.t 15,.c (.int .i64 0),.c (.int .i64 1099511627776)],.none⟩,⟨.none,.more .insM [.t 10,.c (.int .i32 110),.t 16],.none⟩,⟨.some 17,.mov (.t 4),.none⟩,⟨.some 18,.fldA .false 2 1 (.t 3),.none⟩,⟨.some 19,.call (.t 17) [.t 18,.c (.int .i64 0),.c (.int .i64 1099511627776)],.none⟩,⟨.none,.more .insM [.t 10,.c (.int .i32 112),.t 19],.none⟩,⟨.some 20,.mov (.t 4),.none⟩,⟨.some 21,.fldA .false 3 1 (.t 3),.none⟩,⟨.some 22,.call (.t 20) [.t 21,.c (.int .i64 0),.c (.int .i64 1099511627776)],.none⟩,⟨.none,.more .insM [.t 10,.c (.int .i32 113),.t 22],.none⟩,⟨.some 23,.mov (.t 4),.none⟩,⟨.some 24,.fldA .false 4 1 (.t 3),.none⟩,⟨.some 25,.call (.t 23) [.t 24,.c (.int .i64 0),.c (.int .i64 1099511627776)],.none⟩,⟨.none,.more .insM [.t 10,.c (.int .i32 105),.t 25],.none⟩,⟨.some 26,.mov (.t 4),.none⟩,⟨.some 27,.fldA .false 5 1 (.t 3),.none⟩,⟨.some 28,.call (.t 26) [.t 27,.c (.int .i64 1),.c (.int .i64 1099511627776)],.none⟩,⟨.none,.more .insM [.t 10,.c (.int .i32 111),.t 28],.none⟩,⟨.some 29,.mov (.t 4),.none⟩,⟨.some 30,.fldA .false 6 1 (.t 3),.none⟩,⟨.some 31,.call (.t 29) [.t 30,.c (.int .i64 1),.c (.int .i64 1099511627776)],.none⟩,⟨.none,.more .insM [.t 10,.c (.int .i32 119),.t 31],.none⟩,⟨.some 32,.mov (.t 4),.none⟩,⟨.some 33,.fldA .false 7 1 (.t 3),.none⟩,⟨.some 34,.call (.t 32) [.t 33,.c (.int .i64 1),.c (.int .i64 1099511627776)],.none⟩,⟨.none,.more .insM [.t 10,.c (.int .i32 104),.t 34],.none⟩,⟨.some 35,.mov (.t 4),.none⟩,⟨.some 36,.fldA .false 8 1 (.t 3),.none⟩,⟨.some 37,.call (.t 35) [.t 36,.c (.int .i64 0),.c (.int .i64 4)],.none⟩,⟨.none,.more .insM [.t 10,.c (.int .i32 66),.t 37],.none⟩,⟨.some 38,.mov (.t 4),.none⟩,⟨.some 39,.fldA .false 9 1 (.t 3),.none⟩,⟨.some 40,.call (.t 38) [.t 39,.c (.int .i64 0),.c (.int .i64 4)],.none⟩,⟨.none,.more .insM [.t 10,.c (.int .i32 65),.t 40],.none⟩,⟨.some 41,.mov (.t 4),.none⟩,⟨.some 42,.fldA .false 10 1 (.t 3),.none⟩,⟨.some 43,.call (.t 41) [.t 42,.c (.int .i64 0),.c (.int .i64 1)],.none⟩,⟨.none,.more .insM [.t 10,.c (.int .i32 73),.t 43],.none⟩,⟨.some 44,.mov (.t 4),.none⟩,⟨.some 45,.fldA .false 11 1 (.t 3),.none⟩,⟨.some 46,.call (.t 44) [.t 45,.c (.int .i64 0),.c (.int .i64 3)],.none⟩,⟨.none,.more .insM [.t 10,.c (.int .i32 99),.t 46],.none⟩,⟨.some 47,.mov (.t 10),.none⟩,⟨.some 5,.mov (.t 47),.none⟩]) (.seq (.block 0 (.loop (.seq (.seq (.reg .false [⟨.some 48,.load .false 1 (.t 1),.none⟩,⟨.some 49,.nilCheck (.t 48),.none⟩,⟨.some 50,.fldA .false 1 1 (.t 49),.none⟩,⟨.some 51,.load .false 1 (.t 50),.none⟩,⟨.some 52,.not (.t 51),.none⟩,⟨.some 53,.mov (.t 52),.none⟩,⟨.some 54,.load .false 1 (.t 1),.some ((.t 53),.true)⟩,⟨.some 55,.nilCheck (.t 54),.some ((.t 53),.true)⟩,⟨.some 56,.fldA .false 0 1 (.t 55),.some ((.t 53),.true)⟩,⟨.some 57,.load .false 1 (.t 56),.some ((.t 53),.true)⟩,⟨.some 58,.len .false (.t 57),.some ((.t 53),.true)⟩,⟨.some 59,.bin .gtr (.t 58) (.c (.int .i64 0)),.some ((.t 53),.true)⟩,⟨.some 60,.pick (.t 53) (.t 59) (.c (.bool .false)),.none⟩,⟨.some 61,.mov (.t 60),.none⟩,⟨.some 62,.load .false 1 (.t 1),.some ((.t 61),.true)⟩,⟨.some 63,.nilCheck (.t 62),.some ((.t 61),.true)⟩,⟨.some 64,.fldA .false 0 1 (.t 63),.some ((.t 61),.true)⟩,⟨.some 65,.load .false 1 (.t 64),.some ((.t 61),.true)⟩,⟨.some 66,.idxA 4 (.t 65) (.c (.int .i64 0)),.some ((.t 61),.true)⟩,⟨.some 67,.fldA .false 0 1 (.t 66),.some ((.t 61),.true)⟩,⟨.some 68,.load .false 1 (.t 67),.some ((.t 61),.true)⟩,⟨.some 69,.bin .eql (.t 68) (.c (.int .i64 1)),.some ((.t 61),.true)⟩,⟨.some 70,.pick (.t 61) (.t 69) (.c (.bool .false)),.none⟩]) (.cond (.t 70) .skip (.exit 0))) (.block 1 (.seq (.reg .false [⟨.some 71,.load .false 1 (.t 1),.none⟩,⟨.some 72,.nilCheck (.t 71),.none⟩,⟨.some 73,.fldA .false 0 1 (.t 72),.none⟩,⟨.some 74,.load .false 1 (.t 73),.none⟩,⟨.some 75,.idxA 4 (.t 74) (.c (.int .i64 0)),.none⟩,⟨.some 76,.fldA .false 1 1 (.t 75),.none⟩,⟨.some 77,.load .false 1 (.t 76),.none⟩,⟨.some 6,.mov (.t 77),.none⟩]) (.seq (.reg .false [⟨.some 78,.mov (.t 5),.none⟩,⟨.some 79,.mov (.t 6),.none⟩,⟨.some 80,.more (.lookM .false .nilfn) [.t 78,.t 79],.none⟩,⟨.some 7,.mov (.t 80),.none⟩]) (.seq (.seq (.reg .false [⟨.some 81,.mov (.t 7),.none⟩,⟨.some 82,.binB .false (.t 81) (.c (.iface 2 .undef)),.none⟩]) (.cond (.t 82) (.exit 0) .skip)) (.seq (.reg .false [⟨.some 83,.mov (.t 5),.none⟩,⟨.some 84,.mov (.t 6),.none⟩,⟨.none,.more .delM [.t 83,.t 84],.none⟩]) (.seq (.reg .false [⟨.some 85,.load .false 1 (.t 1),.none⟩,⟨.some 86,.mov (.t 6),.none⟩,⟨.some 87,.call (.c (.fn 63 [])) [.t 85,.t 86],.none⟩]) (.reg .false [⟨.some 88,.mov (.t 7),.none⟩,⟨.some 89,.call (.t 88) [],.none⟩])))))))))) (.seq (.reg .false [⟨.some 90,.load .true 12 (.t 3),.none⟩,⟨.none,.store 12 (.t 2) (.t 90),.none⟩]) .ret))))),[.cell .true 12 (.t 2)]⟩
theorem e91 : cfn Tryd.prog Tryd.f91 = some c91 := by kernel_rfl
theorem k91 : callable Tryd.prog 91 = true := by kernel_rfl
def c92 : VFn := ⟨45,.seq (.reg .false [⟨.some 6,.mov (.c (.int .i64 0)),.none⟩]) (.seq (.seq (.reg .false [⟨.some 8,.mov (.t 0),.none⟩,⟨.some 9,.mov (.t 0),.none⟩,⟨.some 10,.nilCheck (.t 9),.none⟩,⟨.some 11,.fldA .false 1 1 (.t 10),.none⟩,⟨.some 12,.load .false 1 (.t 11),.none⟩,⟨.some 13,.mov (.t 12),.none⟩,⟨.some 14,.mov (.t 0),.some ((.t 13),.false)⟩,⟨.some 15,.nilCheck (.t 14),.some ((.t 13),.false)⟩,⟨.some 16,.fldA .false 0 1 (.t 15),.some ((.t 13),.false)⟩,⟨.some 17,.load .false 1 (.t 16),.some ((.t 13),.false)⟩,⟨.some 18,.mov (.t 1),.some ((.t 13),.false)⟩,⟨.some 19,.mov (.t 2),.some ((.t 13),.false)⟩,⟨.some 20,.call (.c (.fn 93 [])) [.t 17,.t 18,.t 19],.some ((.t 13),.false)⟩,⟨.some 21,.not (.t 20),.some ((.t 13),.false)⟩,⟨.some 22,.pick (.t 13) (.c (.bool .true)) (.t 21),.none⟩,⟨.some 23,.nilCheck (.t 8),.none⟩,⟨.some 24,.fldA .false 1 1 (.t 23),.none⟩,⟨.none,.store 1 (.t 24) (.t 22),.none⟩]) (.seq (.reg .false [⟨.some 25,.mov (.t 0),.none⟩,⟨.some 26,.nilCheck (.t 25),.none⟩,⟨.some 27,.fldA .false 1 1 (.t 26),.none⟩,⟨.some 28,.load .false 1 (.t 27),.none⟩]) (.cond (.t 28) (.seq (.reg .false [⟨.some 6,.mov (.c (.int .i64 0)),.none⟩]) .ret) .skip))) (.seq (.reg .false [⟨.some 29,.mov (.t 0),.none⟩,⟨.some 30,.nilCheck (.t 29),.none⟩,⟨.some 31,.fldA .false 0 1 (.t 30),.none⟩,⟨.some 32,.load .false 1 (.t 31),.none⟩,⟨.some 33,.idxA 4 (.t 32) (.c (.int .i64 0)),.none⟩,⟨.some 34,.fldA .false 2 1 (.t 33),.none⟩,⟨.some 35,.load .false 1 (.t 34),.none⟩,⟨.some 7,.mov (.t 35),.none⟩]) (.seq (.reg .false [⟨.some 36,.mov (.t 0),.none⟩,⟨.some 37,.mov (.t 0),.none⟩,⟨.some 38,.nilCheck (.t 37),.none⟩,⟨.some 39,.fldA .false 0 1 (.t 38),.none⟩,⟨.some 40,.load .false 1 (.t 39),.none⟩,⟨.some 41,.slice 4 (.t 40) (.some (.c (.int .i64 1))) .none .none,.none⟩,⟨.some 42,.nilCheck (.t 36),.none⟩,⟨.some 43,.fldA .false 0 1 (.t 42),.none⟩,⟨.none,.store 1 (.t 43) (.t 41),.none⟩]) (.seq (.reg .false [⟨.some 44,.mov (.t 7),.none⟩,⟨.some 6,.mov (.t 44),.none⟩]) .ret)))),[.tmp (.t 6)]⟩
theorem e92 : cfn Tryd.prog Tryd.f92 = some c92 := by kernel_rfl
theorem k92 : callable Tryd.prog 92 = true := by kernel_rfl
def c93 : VFn := ⟨33,.seq (.reg .false [⟨.some 6,.mov (.c (.bool .false)),.none⟩]) (.seq (.reg .false [⟨.some 7,.mov (.t 0),.none⟩,⟨.some 8,.len .false (.t 7),.none⟩,⟨.some 9,.bin .gtr (.t 8) (.c (.int .i64 0)),.none⟩,⟨.some 10,.mov (.t 9),.none⟩,⟨.some 11,.mov (.t 0),.some ((.t 10),.true)⟩,⟨.some 12,.idxA 4 (.t 11) (.c (.int .i64 0)),.some ((.t 10),.true)⟩,⟨.some 13,.fldA .false 0 1 (.t 12),.some ((.t 10),.true)⟩,⟨.some 14,.load .false 1 (.t 13),.some ((.t 10),.true)⟩,⟨.some 15,.bin .eql (.t 14) (.c (.int .i64 2)),.some ((.t 10),.true)⟩,⟨.some 16,.pick (.t 10) (.t 15) (.c (.bool .false)),.none⟩,⟨.some 17,.mov (.t 16),.none⟩,⟨.some 18,.mov (.t 0),.some ((.t 17),.true)⟩,⟨.some 19,.idxA 4 (.t 18) (.c (.int .i64 0)),.some ((.t 17),.true)⟩,⟨.some 20,.fldA .false 2 1 (.t 19),.some ((.t 17),.true)⟩,⟨.some 21,.load .false 1 (.t 20),.some ((.t 17),.true)⟩,⟨.some 22,.mov (.t 1),.some ((.t 17),.true)⟩,⟨.some 23,.bin .geq (.t 21) (.t 22),.some ((.t 17),.true)⟩,⟨.some 24,.pick (.t 17) (.t 23) (.c (.bool .false)),.none⟩,⟨.some 25,.mov (.t 24),.none⟩,⟨.some 26,.mov (.t 0),.some ((.t 25),.true)⟩,⟨.some 27,.idxA 4 (.t 26) (.c (.int .i64 0)),.some ((.t 25),.true)⟩,⟨.some 28,.fldA .false 2 1 (.t 27),.some ((.t 25),.true)⟩,⟨.some 29,.load .false 1 (.t 28),.some ((.t 25),.true)⟩,⟨.some 30,.mov (.t 2),.some ((.t 25),.true)⟩,⟨.some 31,.bin .leq (.t 29) (.t 30),.some ((.t 25),.true)⟩,⟨.some 32,.pick (.t 25) (.t 31) (.c (.bool .false)),.none⟩,⟨.some 6,.mov (.t 32),.none⟩]) .ret),[.tmp (.t 6)]⟩
theorem e93 : cfn Tryd.prog Tryd.f93 = some c93 := by kernel_rfl
theorem k93 : callable Tryd.prog 93 = true := by kernel_rfl
def c98 : VFn := ⟨18,.seq (.reg .false [⟨.some 4,.mov (.c (.bool .false)),.none⟩]) (.seq (.reg .false [⟨.some 5,.mov (.t 0),.none⟩,⟨.some 6,.len .true (.t 5),.none⟩,⟨.some 7,.mov (.t 1),.none⟩,⟨.some 8,.len .true (.t 7),.none⟩,⟨.some 9,.bin .geq (.t 6) (.t 8),.none⟩,⟨.some 10,.mov (.t 9),.none⟩,⟨.some 11,.mov (.t 0),.some ((.t 10),.true)⟩,⟨.some 12,.mov (.t 1),.some ((.t 10),.true)⟩,⟨.some 13,.len .true (.t 12),.some ((.t 10),.true)⟩,⟨.some 14,.sliceS (.t 11) .none (.some (.t 13)),.some ((.t 10),.true)⟩,⟨.some 15,.mov (.t 1),.some ((.t 10),.true)⟩,⟨.some 16,.bin .eql (.t 14) (.t 15),.some ((.t 10),.true)⟩,⟨.some 17,.pick (.t 10) (.t 16) (.c (.bool .false)),.none⟩,⟨.some 4,.mov (.t 17),.none⟩]) .ret),[.tmp (.t 4)]⟩
theorem e98 : cfn Tryd.prog Tryd.f98 = some c98 := by kernel_rfl
theorem k98 : callable Tryd.prog 98 = true := by kernel_rfl
def c106 : VFn := ⟨70,.seq (.reg .false [⟨.some 1,.box 34 12 (.t 0),.none⟩,⟨.some 2,.mov (.c (.bool .false)),.none⟩]) (.seq (.reg .false [⟨.some 3,.mov (.c (.int .i64 1099511627776)),.none⟩]) (.seq (.reg .false [⟨.some 4,.fldA .false 0 1 (.t 1),.none⟩,⟨.some 5,.load .false 1 (.t 4),.none⟩,⟨.some 6,.mov (.t 3),.none⟩,⟨.some 7,.call (.c (.fn 107 [])) [.t 5,.c (.int .i64 0),.t 6],.none⟩,⟨.some 8,.mov (.t 7),.none⟩,⟨.some 9,.fldA .false 1 1 (.t 1),.some ((.t 8),.true)⟩,⟨.some 10,.load .false 1 (.t 9),.some ((.t 8),.true)⟩,⟨.some 11,.mov (.t 3),.some ((.t 8),.true)⟩,⟨.some 12,.call (.c (.fn 107 [])) [.t 10,.c (.int .i64 0),.t 11],.some ((.t 8),.true)⟩,⟨.some 13,.pick (.t 8) (.t 12) (.c (.bool .false)),.none⟩,⟨.some 14,.mov (.t 13),.none⟩,⟨.some 15,.fldA .false 2 1 (.t 1),.some ((.t 14),.true)⟩,⟨.some 16,.load .false 1 (.t 15),.some ((.t 14),.true)⟩,⟨.some 17,.mov (.t 3),.some ((.t 14),.true)⟩,⟨.some 18,.call (.c (.fn 107 [])) [.t 16,.c (.int .i64 0),.t 17],.some ((.t 14),.true)⟩,⟨.some 19,.pick (.t 14) (.t 18) (.c (.bool .false)),.none⟩,⟨.some 20,.mov (.t 19),.none⟩,⟨.some 21,.fldA .false 3 1 (.t 1),.some ((.t 20),.true)⟩,⟨.some 22,.load .false 1 (.t 21),.some ((.t 20),.true)⟩,⟨.some 23,.mov (.t 3),.some ((.t 20),.true)⟩,⟨.some 24,.call (.c (.fn 107 [])) [.t 22,.c (.int .i64 0),.t 23],.some ((.t 20),.true)⟩,⟨.some 25,.pick (.t 20) (.t 24) (.c (.bool .false)),.none⟩,⟨.some 26,.mov (.t 25),.none⟩,⟨.some 27,.fldA .false 4 1 (.t 1),.some ((.t 26),.true)⟩,⟨.some 28,.load .false 1 (.t 27),.some ((.t 26),.true)⟩,⟨.some 29,.mov (.t 3),.some ((.t 26),.true)⟩,⟨.some 30,.call (.c (.fn 107 [])) [.t 28,.c (.int .i64 0),.t 29],.some ((.t 26),.true)⟩,⟨.some 31,.pick (.t 26) (.t 30) (.c (.bool .false)),.none⟩,⟨.some 32,.mov (.t 31),.none⟩,⟨.some 33,.fldA .false 5 1 (.t 1),.some ((.t 32),.true)⟩,⟨.some 34,.load .false 1 (.t 33),.some ((.t 32),.true)⟩,⟨.some 35,.mov (.t 3),.some ((.t 32),.true)⟩,⟨.some 36,.call (.c (.fn 107 [])) [.t 34,.c (.int .i64 1),.t 35],.some ((.t 32),.true)⟩,⟨.some 37,.pick (.t 32) (.t 36) (.c (.bool .false)),.none⟩,⟨.some 38,.mov (.t 37),.none⟩,⟨.some 39,.fldA .false 6 1 (.t 1),.some ((.t 38),.true)⟩,⟨.some 40,.load .false 1 (.t 39),.some ((.t 38),.true)⟩,⟨.some 41,.mov (.t 3),.some ((.t 38),.true)⟩,⟨.some 42,.call (.c (.fn 107 [])) [.t 40,.c (.int .i64 1),.t 41],.some ((.t 38),.true)⟩,⟨.some 43,.pick (.t 38) (.t 42) (.c (.bool .false)),.none⟩,⟨.some 44,.mov (.t 43),.none⟩,⟨.some 45,.fldA .false 7 1 (.t 1),.some ((.t 44),.true)⟩,⟨.some 46,.load .false 1 (.t 45),.some ((.t 44),.true)⟩,⟨.some 47,.mov (.t 3),.some ((.t 44),.true)⟩,⟨.some 48,.call (.c (.fn 107 [])) [.t 46,.c (.int .i64 0),.t 47],.some ((.t 44),.true)⟩,⟨.some 49,.pick (.t 44) (.t 48) (.c (.bool .false)),.none⟩,⟨.some 50,.mov (.t 49),.none⟩,⟨.some 51,.fldA .false 8 1 (.t 1),.some ((.t 50),.true)⟩,⟨.some 52,.load .false 1 (.t 51),.some ((.t 50),.true)⟩,⟨.some 53,.call (.c (.fn 107 [])) [.t 52,.c (.int .i64 0),.c (.int .i64 4)],.some ((.t 50),.true)⟩,⟨.some 54,.pick (.t 50) (.t 53) (.c (.bool .false)),.none⟩,⟨.some 55,.mov (.t 54),.none⟩,⟨.some 56,.fldA .false 9 1 (.t 1),.some ((.t 55),.true)⟩,⟨.some 57,.load .false 1 (.t 56),.some ((.t 55),.true)⟩,⟨.some 58,.call (.c (.fn 107 [])) [.t 57,.c (.int .i64 0),.c (.int .i64 4)],.some ((.t 55),.true)⟩,⟨.some 59,.pick (.t 55) (.t 58) (.c (.bool .false)),.none⟩,⟨.some 60,.mov (.t 59),.none⟩,⟨.some 61,.fldA .false 10 1 (.t 1),.some ((.t 60),.true)⟩,⟨.some 62,.load .false 1 (.t 61),.some ((.t 60),.true)⟩,⟨.some 63,.call (.c (.fn 107 [])) [.t 62,.c (.int .i64 0),.c (.int .i64 1)],.some ((.t 60),.true)⟩,⟨.some 64,.pick (.t 60) (.t 63) (.c (.bool .false)),.none⟩,⟨.some 65,.mov (.t 64),.none⟩,⟨.some 66,.fldA .false 11 1 (.t 1),.some ((.t 65),.true)⟩,⟨.some 67,.load .false 1 (.t 66),.some ((.t 65),.true)⟩,⟨.some 68,.call (.c (.fn 107 [])) [.t 67,.c (.int .i64 0),.c (.int .i64 3)],.some ((.t 65),.true)⟩,⟨.some 69,.pick (.t 65) (.t 68) (.c (.bool .false)),.none⟩,⟨.some 2,.mov (.t 69),.none⟩]) .ret)),[.tmp (.t 2)]⟩
theorem e106 : cfn Tryd.prog Tryd.f106 = some c106 := by kernel_rfl
theorem k106 : callable Tryd.prog 106 = true := by kernel_rfl
def c107 : VFn := ⟨15,.seq (.reg .false [⟨.some 6,.mov (.c (.bool .false)),.none⟩]) (.seq (.reg .false [⟨.some 7,.mov (.t 0),.none⟩,⟨.some 8,.mov (.t 1),.none⟩,⟨.some 9,.bin .geq (.t 7) (.t 8),.none⟩,⟨.some 10,.mov (.t 9),.none⟩,⟨.some 11,.mov (.t 0),.some ((.t 10),.true)⟩,⟨.some 12,.mov (.t 2),.some ((.t 10),.true)⟩,⟨.some 13,.bin .leq (.t 11) (.t 12),.some ((.t 10),.true)⟩,⟨.some 14,.pick (.t 10) (.t 13) (.c (.bool .false)),.none⟩,⟨.some 6,.mov (.t 14),.none⟩]) .ret),[.tmp (.t 6)]⟩
theorem e107 : cfn Tryd.prog Tryd.f107 = some c107 := by kernel_rfl
theorem k107 : callable Tryd.prog 107 = true := by kernel_rfl
def c108 : VFn := ⟨14,.seq (.reg .false [⟨.some 6,.mov (.c (.str [])),.none⟩]) (.seq (.seq (.reg .false [⟨.some 7,.mov (.t 1),.none⟩,⟨.some 8,.mov (.t 2),.none⟩,⟨.some 9,.bin .eql (.t 7) (.t 8),.none⟩]) (.cond (.t 9) (.seq (.reg .false [⟨.some 6,.mov (.c (.str [])),.none⟩]) .ret) .skip)) (.seq (.reg .false [⟨.some 10,.mov (.t 0),.none⟩,⟨.some 11,.mov (.t 1),.none⟩,⟨.some 12,.call (.c (.fn 90 [])) [.t 11],.none⟩,⟨.some 13,.bin .add (.t 10) (.t 12),.none⟩,⟨.some 6,.mov (.t 13),.none⟩]) .ret)),[.tmp (.t 6)]⟩
theorem e108 : cfn Tryd.prog Tryd.f108 = some c108 := by kernel_rfl
theorem k108 : callable Tryd.prog 108 = true := by kernel_rfl
def c109 : VFn := ⟨9,.seq (.reg .false [⟨.some 4,.box 150 1 (.t 0),.none⟩,⟨.some 5,.box 3 1 (.t 1),.none⟩,⟨.some 6,.box 3 1 (.t 2),.none⟩,⟨.some 7,.mov (.c .nilfn),.none⟩]) (.seq (.reg .false [⟨.some 8,.mkfn 110 [.t 3,.t 5,.t 6,.t 4],.none⟩,⟨.some 7,.mov (.t 8),.none⟩]) .ret),[.tmp (.t 7)]⟩
theorem e109 : cfn Tryd.prog Tryd.f109 = some c109 := by kernel_rfl
theorem k109 : callable Tryd.prog 109 = true := by kernel_rfl
def c110 : VFn := ⟨10,.regA [⟨.some 4,.load .false 1 (.t 3),.none⟩,⟨.some 5,.load .false 1 (.t 0),.none⟩,⟨.some 6,.load .false 1 (.t 1),.none⟩,⟨.some 7,.load .false 1 (.t 2),.none⟩,⟨.some 8,.call (.c (.fn 92 [])) [.t 5,.t 6,.t 7],.none⟩,⟨.some 9,.nilCheck (.t 4),.none⟩,⟨.none,.store 1 (.t 9) (.t 8),.none⟩] [[],[],[],[],[1,2,3],[0,0,1,2,3,4],[5,4,4,0,1,2,3,4]],[]⟩
theorem e110 : cfn Tryd.prog Tryd.f110 = some c110 := by kernel_rfl
theorem k110 : callable Tryd.prog 110 = true := by kernel_rfl
def c159 : VFn := ⟨8,.seq (.reg .false [⟨.some 1,.box 105 2 (.t 0),.none⟩,⟨.some 2,.alloc 37 20 (.agg [.int .i64 0,.int .i64 0,.int .i64 0,.int .i64 0,.int .i64 0,.int .i64 0,.int .i64 0,.int .i64 0,.int .i64 0,.int .i64 0,.int .i64 0,.int .i64 0,.int .i64 0,.int .i64 0,.int .i64 0,.int .i64 0,.nils,.int .i64 0,.int .i64 0,.int .i64 0]),.none⟩]) (.seq (.reg .false [⟨.some 3,.fldA .false 0 1 (.t 1),.none⟩,⟨.some 4,.load .false 1 (.t 3),.none⟩,⟨.some 5,.fldA .false 1 1 (.t 1),.none⟩,⟨.some 6,.load .false 1 (.t 5),.none⟩,⟨.some 7,.build [.int .i64 0,.int .i64 0,.int .i64 0,.int .i64 0,.int .i64 0,.int .i64 0,.int .i64 0,.int .i64 0,.int .i64 0,.int .i64 0,.int .i64 0,.int .i64 0,.int .i64 0,.int .i64 0,.int .i64 0,.int .i64 0,.nils,.int .i64 0,.int .i64 0,.int .i64 0] [(0,(1,(.c (.int .i64 3)))),(1,(1,(.c (.int .i64 1)))),(18,(1,(.t 4))),(19,(1,(.t 6)))],.none⟩,⟨.none,.store 20 (.t 2) (.t 7),.none⟩]) .ret),[.cell .true 20 (.t 2)]⟩
theorem e159 : cfn Tryd.prog Tryd.f159 = some c159 := by kernel_rfl
theorem k159 : callable Tryd.prog 159 = true := by kernel_rfl
def c160 : VFn := ⟨6,.seq (.reg .false [⟨.some 1,.box 109 13 (.t 0),.none⟩,⟨.some 2,.alloc 37 20 (.agg [.int .i64 0,.int .i64 0,.int .i64 0,.int .i64 0,.int .i64 0,.int .i64 0,.int .i64 0,.int .i64 0,.int .i64 0,.int .i64 0,.int .i64 0,.int .i64 0,.int .i64 0,.int .i64 0,.int .i64 0,.int .i64 0,.nils,.int .i64 0,.int .i64 0,.int .i64 0]),.none⟩]) (.seq (.reg .false [⟨.some 3,.fldA .true 0 12 (.t 1),.none⟩,⟨.some 4,.load .true 12 (.t 3),.none⟩,⟨.some 5,.build [.int .i64 0,.int .i64 0,.int .i64 0,.int .i64 0,.int .i64 0,.int .i64 0,.int .i64 0,.int .i64 0,.int .i64 0,.int .i64 0,.int .i64 0,.int .i64 0,.int .i64 0,.int .i64 0,.int .i64 0,.int .i64 0,.nils,.int .i64 0,.int .i64 0,.int .i64 0] [(0,(1,(.c (.int .i64 1)))),(1,(1,(.c (.int .i64 1)))),(2,(12,(.t 4)))],.none⟩,⟨.none,.store 20 (.t 2) (.t 5),.none⟩]) .ret),[.cell .true 20 (.t 2)]⟩
theorem e160 : cfn Tryd.prog Tryd.f160 = some c160 := by kernel_rfl
theorem k160 : callable Tryd.prog 160 = true := by kernel_rfl
def c161 : VFn := ⟨15,.seq (.reg .false [⟨.some 1,.box 140 1 (.t 0),.none⟩,⟨.some 2,.alloc 37 20 (.agg [.int .i64 0,.int .i64 0,.int .i64 0,.int .i64 0,.int .i64 0,.int .i64 0,.int .i64 0,.int .i64 0,.int .i64 0,.int .i64 0,.int .i64 0,.int .i64 0,.int .i64 0,.int .i64 0,.int .i64 0,.int .i64 0,.nils,.int .i64 0,.int .i64 0,.int .i64 0]),.none⟩]) (.seq (.reg .true [⟨.some 3,.fldA .false 0 1 (.t 1),.none⟩,⟨.some 4,.load .false 1 (.t 3),.none⟩,⟨.some 5,.idxA 1 (.t 4) (.c (.int .i64 0)),.none⟩,⟨.some 6,.load .false 1 (.t 5),.none⟩,⟨.some 7,.fldA .false 0 1 (.t 1),.none⟩,⟨.some 8,.load .false 1 (.t 7),.none⟩,⟨.some 9,.idxA 1 (.t 8) (.c (.int .i64 1)),.none⟩,⟨.some 10,.load .false 1 (.t 9),.none⟩,⟨.some 11,.fldA .false 0 1 (.t 1),.none⟩,⟨.some 12,.load .false 1 (.t 11),.none⟩,⟨.some 13,.slice 1 (.t 12) (.some (.c (.int .i64 2))) .none .none,.none⟩,⟨.some 14,.build [.int .i64 0,.int .i64 0,.int .i64 0,.int .i64 0,.int .i64 0,.int .i64 0,.int .i64 0,.int .i64 0,.int .i64 0,.int .i64 0,.int .i64 0,.int .i64 0,.int .i64 0,.int .i64 0,.int .i64 0,.int .i64 0,.nils,.int .i64 0,.int .i64 0,.int .i64 0] [(0,(1,(.c (.int .i64 2)))),(1,(1,(.c (.int .i64 1)))),(14,(1,(.t 6))),(15,(1,(.t 10))),(16,(1,(.t 13)))],.none⟩,⟨.none,.store 20 (.t 2) (.t 14),.none⟩]) .ret),[.cell .true 20 (.t 2)]⟩
theorem e161 : cfn Tryd.prog Tryd.f161 = some c161 := by kernel_rfl
theorem k161 : callable Tryd.prog 161 = true := by kernel_rfl
def c162 : VFn := ⟨12,.seq (.reg .false [⟨.some 1,.box 142 3 (.t 0),.none⟩,⟨.some 2,.alloc 37 20 (.agg [.int .i64 0,.int .i64 0,.int .i64 0,.int .i64 0,.int .i64 0,.int .i64 0,.int .i64 0,.int .i64 0,.int .i64 0,.int .i64 0,.int .i64 0,.int .i64 0,.int .i64 0,.int .i64 0,.int .i64 0,.int .i64 0,.nils,.int .i64 0,.int .i64 0,.int .i64 0]),.none⟩]) (.seq (.reg .false [⟨.some 3,.fldA .false 2 1 (.t 1),.none⟩,⟨.some 4,.load .false 1 (.t 3),.none⟩,⟨.some 5,.fldA .true 0 2 (.t 1),.none⟩,⟨.some 6,.fldA .false 0 1 (.t 5),.none⟩,⟨.some 7,.load .false 1 (.t 6),.none⟩,⟨.some 8,.fldA .true 0 2 (.t 1),.none⟩,⟨.some 9,.fldA .false 1 1 (.t 8),.none⟩,⟨.some 10,.load .false 1 (.t 9),.none⟩,⟨.some 11,.build [.int .i64 0,.int .i64 0,.int .i64 0,.int .i64 0,.int .i64 0,.int .i64 0,.int .i64 0,.int .i64 0,.int .i64 0,.int .i64 0,.int .i64 0,.int .i64 0,.int .i64 0,.int .i64 0,.int .i64 0,.int .i64 0,.nils,.int .i64 0,.int .i64 0,.int .i64 0] [(0,(1,(.c (.int .i64 4)))),(1,(1,(.c (.int .i64 1)))),(17,(1,(.t 4))),(18,(1,(.t 7))),(19,(1,(.t 10)))],.none⟩,⟨.none,.store 20 (.t 2) (.t 11),.none⟩]) .ret),[.cell .true 20 (.t 2)]⟩
theorem e162 : cfn Tryd.prog Tryd.f162 = some c162 := by kernel_rfl
theorem k162 : callable Tryd.prog 162 = true := by kernel_rfl
end Go.Vc
namespace Go.Vc
open Go.Proofs
def c101 : VFn := ⟨19,.seq (.reg .false [⟨.some 4,.mov (.c (.int .i64 0)),.none⟩]) (.seq (.seq (.reg .false [⟨.some 6,.mov (.t 0),.none⟩,⟨.some 7,.len .false (.t 6),.none⟩,⟨.some 8,.mov (.c (.int .i64 0)),.none⟩]) (.block 0 (.loop (.seq (.reg .false [⟨.some 9,.bin .lss (.t 8) (.t 7),.none⟩]) (.seq (.cond (.t 9) .skip (.exit 0)) (.seq (.block 1 (.seq (.reg .false [⟨.some 10,.mov (.t 8),.none⟩,⟨.some 5,.mov (.t 10),.none⟩]) (.seq (.reg .false [⟨.some 11,.mov (.t 1),.none⟩,⟨.some 12,.mov (.t 0),.none⟩,⟨.some 13,.mov (.t 5),.none⟩,⟨.some 14,.idxA 1 (.t 12) (.t 13),.none⟩,⟨.some 15,.load .false 1 (.t 14),.none⟩,⟨.some 16,.call (.t 11) [.t 15],.none⟩]) (.cond (.t 16) (.seq (.reg .false [⟨.some 17,.mov (.t 5),.none⟩,⟨.some 4,.mov (.t 17),.none⟩]) .ret) .skip)))) (.reg .false [⟨.some 18,.bin .add (.t 8) (.c (.int .i64 1)),.none⟩,⟨.some 8,.mov (.t 18),.none⟩]))))))) (.seq (.reg .false [⟨.some 4,.mov (.c (.int .i64 (-1))),.none⟩]) .ret)),[.tmp (.t 4)]⟩
theorem e101 : cfn Tryd.prog Tryd.f101 = some c101 := by kernel_rfl
theorem k101 : callable Tryd.prog 101 = true := by kernel_rfl
def c102 : VFn := ⟨9,.seq (.reg .false [⟨.some 4,.mov (.c (.bool .false)),.none⟩]) (.seq (.reg .false [⟨.some 5,.mov (.t 0),.none⟩,⟨.some 6,.mov (.t 1),.none⟩,⟨.some 7,.call (.c (.fn 101 [])) [.t 5,.t 6],.none⟩,⟨.some 8,.bin .geq (.t 7) (.c (.int .i64 0)),.none⟩,⟨.some 4,.mov (.t 8),.none⟩]) .ret),[.tmp (.t 4)]⟩
theorem e102 : cfn Tryd.prog Tryd.f102 = some c102 := by kernel_rfl
theorem k102 : callable Tryd.prog 102 = true := by kernel_rfl
def c103 : VFn := ⟨14,.seq (.reg .false [⟨.some 3,.mov (.c (.bool .false)),.none⟩]) (.seq (.reg .false [⟨.some 4,.mov (.t 0),.none⟩,⟨.some 5,.fldA .false 0 1 (.t 1),.none⟩,⟨.some 6,.load .false 1 (.t 5),.none⟩,⟨.some 7,.bin .lss (.t 4) (.t 6),.none⟩,⟨.some 8,.mov (.t 7),.none⟩,⟨.some 9,.mov (.t 0),.some ((.t 8),.false)⟩,⟨.some 10,.fldA .false 1 1 (.t 1),.some ((.t 8),.false)⟩,⟨.some 11,.load .false 1 (.t 10),.some ((.t 8),.false)⟩,⟨.some 12,.bin .gtr (.t 9) (.t 11),.some ((.t 8),.false)⟩,⟨.some 13,.pick (.t 8) (.c (.bool .true)) (.t 12),.none⟩,⟨.some 3,.mov (.t 13),.none⟩]) .ret),[.tmp (.t 3)]⟩
theorem e103 : cfn Tryd.prog Tryd.f103 = some c103 := by kernel_rfl
theorem k103 : callable Tryd.prog 103 = true := by kernel_rfl
end Go.Vc
namespace Go.Vc
open Go.Proofs
theorem from_c (n a b : Int) : PFun Tryd.prog 107 [vI n, vI a, vI b] (.bool (decide (n ≥ a ∧ n ≤ b))) := fun σ => by
  refine Contract.of_runs Tryd.func107 e107 k107 (by simp [c107]) ?_
  (refine Runs.of_step Orc.nothing 300 ?_; simp -implicitDefEqProofs only [BB,seval,effR_some,effD_some,← decide_not,okind,vpre,vpure,intBin,intPre,strBin,strPre,popTo,argSlots,fldV,fldAV,subCells,idxVV,idxAAV,idxSV,sliceV,sliceSV,boundV,szIs,storeOp,storeS,setRowV,eff,extV,buildV,splice,eqSV,fitsL,eqCells,eqCell,minmaxV,capV,binBV,nilCheckV,bytesV,V.cells,V.stays,Orc.nothing,c107])
  constructor <;> intro h <;> exact RetV.same (by simp [h])
end Go.Vc
namespace Go.Vc
open Go.Proofs
def firstI (p : Int → Bool) : List Int → Int
  | [] => -1
  | x :: l => if p x then 0 else if firstI p l < 0 then -1 else firstI p l + 1
def firstAt (p : Int → Bool) (i : Nat) (l : List Int) : Int := if firstI p l < 0 then -1 else firstI p l + i
theorem firstI_ge (p : Int → Bool) : ∀ l, -1 ≤ firstI p l
  | [] => by simp [firstI]
  | x :: l => by
    have := firstI_ge p l
    simp only [firstI]
    split
    · omega
    · split <;> omega
theorem firstI_at (p : Int → Bool) (l : List Int) : firstI p l = firstAt p 0 l := by
  have := firstI_ge p l
  unfold firstAt
  split <;> omega
theorem indexFunc_c {σ : Store} {sv : V} {l : List Int} {f : FuncId} {caps : List V} {p : Int → Bool} (hr : Reads σ 1 false sv (l.map vI)) (hl : l.length ≤ 200000000000000)
    (hf : ∀ n ∈ l, Contract Tryd.prog f (vI n :: caps) σ fun r σ' => r = .bool (p n) ∧ σ' = σ) :
    Contract Tryd.prog 101 [sv, .fn f caps] σ fun r σ' => r = vI (firstI p l) ∧ σ' = σ := by
  have hlen : lenV false sv = some (vI (l.length : Int)) := by simpa using hr.1
  refine Contract.of_runs Tryd.func101 e101 k101 (by simp [c101]) ?_
  (refine Runs.of_step Orc.nothing 300 ?_; simp -implicitDefEqProofs only [BB,seval,effR_some,effD_some,← decide_not,okind,vpre,vpure,intBin,intPre,strBin,strPre,popTo,argSlots,fldV,fldAV,subCells,idxVV,idxAAV,idxSV,sliceV,sliceSV,boundV,szIs,storeOp,storeS,setRowV,eff,extV,buildV,splice,eqSV,fitsL,eqCells,eqCell,minmaxV,capV,binBV,nilCheckV,bytesV,V.cells,V.stays,Orc.nothing,c101,hlen])
  refine Runs.loop (fun m st => ∃ i : Nat, i ≤ l.length ∧ m = l.length - i ∧ firstI p l = firstAt p i (l.drop i) ∧ st.σ = σ ∧ st.s 0 = sv ∧ st.s 1 = .fn f caps ∧ st.s 7 = vI l.length ∧ st.s 8 = vI i) l.length ?_ ?_
  · exact ⟨0, by omega, by omega, firstI_at p l, rfl, rfl, rfl, rfl, rfl⟩
  · rintro m ⟨s, σ'⟩ ⟨i, hi, rfl, hp, hσ, h0, h1, h7, h8⟩
    simp only at h0 h1 h7 h8 hσ
    subst hσ
    (refine Runs.of_step Orc.nothing 300 ?_; simp -implicitDefEqProofs only [BB,seval,effR_some,effD_some,← decide_not,okind,vpre,vpure,intBin,intPre,strBin,strPre,popTo,argSlots,fldV,fldAV,subCells,idxVV,idxAAV,idxSV,sliceV,sliceSV,boundV,szIs,storeOp,storeS,setRowV,eff,extV,buildV,splice,eqSV,fitsL,eqCells,eqCell,minmaxV,capV,binBV,nilCheckV,bytesV,V.cells,V.stays,Orc.nothing,h0,h1,h7,h8])
    constructor
    · intro hlt
      have hlt' : i < l.length := by omega
      have hd : l.drop i = l[i] :: l.drop (i + 1) := List.drop_eq_getElem_cons hlt'
      obtain ⟨pp, e1, e2⟩ := hr.2 i (vI l[i]) (by simp [hlt'])
      simp -implicitDefEqProofs only [BB,seval,effR_some,effD_some,← decide_not,okind,vpre,vpure,intBin,intPre,strBin,strPre,popTo,argSlots,fldV,fldAV,subCells,idxVV,idxAAV,idxSV,sliceV,sliceSV,boundV,szIs,storeOp,storeS,setRowV,eff,extV,buildV,splice,eqSV,fitsL,eqCells,eqCell,minmaxV,capV,binBV,nilCheckV,bytesV,V.cells,V.stays,e1,e2,s_r_stop]
      refine Runs.pcall rfl rfl rfl (hf l[i] (List.getElem_mem hlt')) ?_
      (refine Runs.of_step Orc.nothing 300 ?_; simp -implicitDefEqProofs only [BB,seval,effR_some,effD_some,← decide_not,okind,vpre,vpure,intBin,intPre,strBin,strPre,popTo,argSlots,fldV,fldAV,subCells,idxVV,idxAAV,idxSV,sliceV,sliceSV,boundV,szIs,storeOp,storeS,setRowV,eff,extV,buildV,splice,eqSV,fitsL,eqCells,eqCell,minmaxV,capV,binBV,nilCheckV,bytesV,V.cells,V.stays,Orc.nothing,h0,h1,h7,h8])
      cases hpx : p l[i]
      · simp -implicitDefEqProofs only [BB,seval,effR_some,effD_some,← decide_not,okind,vpre,vpure,intBin,intPre,strBin,strPre,popTo,argSlots,fldV,fldAV,subCells,idxVV,idxAAV,idxSV,sliceV,sliceSV,boundV,szIs,storeOp,storeS,setRowV,eff,extV,buildV,splice,eqSV,fitsL,eqCells,eqCell,minmaxV,capV,binBV,nilCheckV,bytesV,V.cells,V.stays,h8]
        refine ⟨inR_i64 (by omega) (by omega), _, ?_, i + 1, by omega, rfl, ?_, h0, h1, h7, ?_⟩
        · omega
        · rw [hp, hd]
          simp only [firstAt,firstI,hpx,Bool.false_eq_true,if_false]
          have := firstI_ge p (l.drop (i + 1))
          repeat' split
          all_goals omega
        · simp
      · simp -implicitDefEqProofs only [BB,seval,effR_some,effD_some,← decide_not,okind,vpre,vpure,intBin,intPre,strBin,strPre,popTo,argSlots,fldV,fldAV,subCells,idxVV,idxAAV,idxSV,sliceV,sliceSV,boundV,szIs,storeOp,storeS,setRowV,eff,extV,buildV,splice,eqSV,fitsL,eqCells,eqCell,minmaxV,capV,binBV,nilCheckV,bytesV,V.cells,V.stays]
        refine RetV.same ?_
        rw [hp, hd]
        simp [firstAt, firstI, hpx]
    · intro hge
      have : i = l.length := by omega
      refine RetV.same ?_
      rw [hp, this, List.drop_length]
      rfl
end Go.Vc
namespace Go.Vc
open Go.Proofs
def o1 (f : FuncId) (args : List V) : Option V := if f = 107 then (match args with
  | [.int .i64 n, .int .i64 a, .int .i64 b] => some (.bool (decide (n ≥ a ∧ n ≤ b)))
  | _ => none) else none
def O1 : Orc Tryd.prog where
  get f args _ := o1 f args
  ok f args σ v h := by
    unfold o1 at h
    split at h
    · rename_i hf
      subst hf
      split at h
      · simp only [Option.some.injEq] at h
        subst h
        exact from_c _ _ _ σ
      · cases h
    · cases h
theorem O1_67 (n a b : Int) (σ : Store) : O1.get 107 [.int .i64 n, .int .i64 a, .int .i64 b] σ = some (.bool (decide (n ≥ a ∧ n ≤ b))) := rfl
set_option maxRecDepth 100000 in
theorem rblock_c (s : Sty) : PFun Tryd.prog 106 [.agg s.cells] (.bool s.ok) := fun σ => by
  refine Contract.of_runs Tryd.func106 e106 k106 (by simp [c106]) ?_
  refine Runs.mix 4 ?_
  (refine Runs.of_step O1 300 ?_; simp -implicitDefEqProofs only [BB,seval,effR_some,effD_some,← decide_not,okind,vpre,vpure,intBin,intPre,strBin,strPre,popTo,argSlots,fldV,fldAV,subCells,idxVV,idxAAV,idxSV,sliceV,sliceSV,boundV,szIs,storeOp,storeS,setRowV,eff,extV,buildV,splice,eqSV,fitsL,eqCells,eqCell,minmaxV,capV,binBV,nilCheckV,bytesV,V.cells,V.stays,c106,Sty.cells,O1_67])
  intro id hid
  repeat' (first
    | with_reducible refine And.intro (fun h => ?_) (fun h => ?_)
    | with_reducible refine RetV.pure ((SubStore.refl σ).upd hid) ?_)
  all_goals simp -implicitDefEqProofs only [BB,seval,effR_some,effD_some,← decide_not,okind,vpre,vpure,intBin,intPre,strBin,strPre,popTo,argSlots,fldV,fldAV,subCells,idxVV,idxAAV,idxSV,sliceV,sliceSV,boundV,szIs,storeOp,storeS,setRowV,eff,extV,buildV,splice,eqSV,fitsL,eqCells,eqCell,minmaxV,capV,binBV,nilCheckV,bytesV,V.cells,V.stays,Sty.ok,isFrom,mx,V.bool.injEq]
  all_goals (rw [Bool.eq_iff_iff]; simp [*])
end Go.Vc
namespace Go.Vc
open Go.Proofs
def Nd.ok (x : Nd) : Bool :=
  if x.kind = 1 then x.st.ok && decide (x.line = 0) && decide (x.space = 0) && decide (x.words.length = 0) && decide (x.side = 0) && decide (x.w = 0) && decide (x.h = 0)
  else if x.st ≠ Sty.zero then false
  else if x.kind = 2 then x.words.all (isFrom · 1 mx) && decide (0 < x.words.length) && isFrom x.line 1 mx && isFrom x.space 0 mx && decide (x.side = 0) && decide (x.w = 0) && decide (x.h = 0)
  else decide (x.line = 0) && decide (x.space = 0) && decide (x.words.length = 0) && isFrom x.w 1 mx && isFrom x.h 1 mx &&
    (decide (x.kind = 3) && decide (x.side = 0) || decide (x.kind = 4) && isFrom x.side 1 2)
def o4 (f : FuncId) (args : List V) : Option V := if f = 107 then (match args with
  | [.int .i64 n, .int .i64 a, .int .i64 b] => some (.bool (decide (n ≥ a ∧ n ≤ b)))
  | _ => none) else if f = 106 then (match args with
  | [.agg [.int .i64 a, .int .i64 b, .int .i64 c, .int .i64 d, .int .i64 e, .int .i64 f, .int .i64 g, .int .i64 h, .int .i64 i, .int .i64 j, .int .i64 k, .int .i64 l]] => some (.bool (Sty.ok ⟨a, b, c, d, e, f, g, h, i, j, k, l⟩))
  | _ => none) else none
def O4 : Orc Tryd.prog where
  get f args _ := o4 f args
  ok f args σ v h := by
    unfold o4 at h
    split at h
    · rename_i hf
      subst hf
      split at h
      · simp only [Option.some.injEq] at h
        subst h
        exact from_c _ _ _ σ
      · cases h
    · split at h
      · rename_i hf
        subst hf
        split at h
        · simp only [Option.some.injEq] at h
          subst h
          exact rblock_c ⟨_, _, _, _, _, _, _, _, _, _, _, _⟩ σ
        · cases h
      · cases h
theorem O4_67 (n a b : Int) (σ : Store) : O4.get 107 [.int .i64 n, .int .i64 a, .int .i64 b] σ = some (.bool (decide (n ≥ a ∧ n ≤ b))) := rfl
theorem O4_66 (a b c d e f g h i j k l : Int) (σ : Store) : O4.get 106 [.agg [.int .i64 a, .int .i64 b, .int .i64 c, .int .i64 d, .int .i64 e, .int .i64 f, .int .i64 g, .int .i64 h, .int .i64 i, .int .i64 j, .int .i64 k, .int .i64 l]] σ =
  some (.bool (Sty.ok ⟨a, b, c, d, e, f, g, h, i, j, k, l⟩)) := rfl
theorem lenV_encI (l : List Int) : lenV false (encI l) = some (.int .i64 l.length) := by simp [encI, lenV]
theorem dec_true (b : Bool) : V.bool b = V.bool (decide (b = true)) := by cases b <;> rfl
theorem all_take (p : Int → Bool) (l : List Int) (i : Nat) (h : i < l.length) : (l.take (i + 1)).all p = ((l.take i).all p && p l[i]) := by
  rw [List.take_succ_eq_append_getElem h, List.all_append]
  simp
theorem idxAV_encI {σ : Store} {l : List Int} {i : Nat} (h : i < l.length) : idxAV σ 1 (encI l) (.int .i64 i) = some (.rp (.int .i64 l[i])) := by
  simp [encI, idxAV, h]
set_option maxRecDepth 100000 in
theorem one_c (x : Nd) (hl : x.words.length ≤ 200000000000000) : PFun Tryd.prog 87 [encN x] (.bool x.ok) := fun σ => by
  refine Contract.of_runs Tryd.func87 e87 k87 (by simp [c87]) ?_
  refine Runs.mix 5 ?_
  (refine Runs.of_step O4 300 ?_; simp -implicitDefEqProofs only [BB,seval,effR_some,effD_some,← decide_not,okind,vpre,vpure,intBin,intPre,strBin,strPre,popTo,argSlots,fldV,fldAV,subCells,idxVV,idxAAV,idxSV,sliceV,sliceSV,boundV,szIs,storeOp,storeS,setRowV,eff,extV,buildV,splice,eqSV,fitsL,eqCells,eqCell,minmaxV,capV,binBV,nilCheckV,bytesV,V.cells,V.stays,c87,encN,Nd.cells,O4_67,O4_66,cR_b,dec_true (Sty.ok _),lenV_encI])
  intro id hid
  have hsub := (SubStore.refl σ).upd hid (o := ⟨37, 20, [encN x]⟩)
  have hz : x.st = Sty.zero ↔ (x.st.top = 0 ∧ x.st.bottom = 0 ∧ x.st.padTop = 0 ∧ x.st.padBottom = 0 ∧ x.st.inset = 0 ∧ x.st.orphans = 0 ∧ x.st.widows = 0 ∧ x.st.head = 0 ∧ x.st.before = 0 ∧ x.st.after = 0 ∧ x.st.inside = 0 ∧ x.st.clear = 0) := by
    cases h : x.st; simp [Sty.zero]
  refine And.intro (fun hk => ?_) (fun hk => And.intro (fun hs => ?_) (fun hs => And.intro (fun hk2 => ?_) (fun hk2 => ?_)))
  · have hok : x.ok = (x.st.ok && decide (x.line = 0) && decide (x.space = 0) && decide (x.words.length = 0) && decide (x.side = 0) && decide (x.w = 0) && decide (x.h = 0)) := by simp [Nd.ok, hk]
    rw [hok]
    repeat' (first
      | with_reducible refine And.intro (fun h => ?_) (fun h => ?_)
      | with_reducible refine RetV.pure ((SubStore.refl σ).upd hid) ?_)
    all_goals simp -implicitDefEqProofs only [BB,seval,effR_some,effD_some,← decide_not,okind,vpre,vpure,intBin,intPre,strBin,strPre,popTo,argSlots,fldV,fldAV,subCells,idxVV,idxAAV,idxSV,sliceV,sliceSV,boundV,szIs,storeOp,storeS,setRowV,eff,extV,buildV,splice,eqSV,fitsL,eqCells,eqCell,minmaxV,capV,binBV,nilCheckV,bytesV,V.cells,V.stays,V.bool.injEq]
    all_goals (rw [Bool.eq_iff_iff]; simp_all)
  · refine RetV.pure hsub ?_
    have : x.st ≠ Sty.zero := by rw [Ne, hz]; simp at hs; intro h; simp_all
    have h1 : x.kind ≠ 1 := by simpa using hk
    simp [Nd.ok, h1, this]
  · have hst : x.st = Sty.zero := by rw [hz]; simp at hs; simp_all
    have hok : x.ok = (x.words.all (isFrom · 1 mx) && decide (0 < x.words.length) && isFrom x.line 1 mx && isFrom x.space 0 mx && decide (x.side = 0) && decide (x.w = 0) && decide (x.h = 0)) := by simp [Nd.ok, hk2, hst]
    refine Runs.loop (fun m st => ∃ i : Nat, i ≤ x.words.length ∧ m = x.words.length - i ∧ (x.words.take i).all (isFrom · 1 mx) = true ∧ st.σ = upd σ id ⟨37, 20, [encN x]⟩ ∧ st.s 1 = .ptr id 0 0 ∧ st.s 3 = vI mx ∧ st.s 4 = vI i) x.words.length ?_ ?_
    · exact ⟨0, by omega, by omega, by simp, rfl, rfl, rfl, rfl⟩
    · rintro m ⟨s, σ'⟩ ⟨i, hi, rfl, hp, hσ, h1, h3, h4⟩
      simp only at h1 h3 h4 hσ
      subst hσ
      refine Runs.mix 5 ?_
      (refine Runs.of_step O4 300 ?_; simp -implicitDefEqProofs only [BB,seval,effR_some,effD_some,← decide_not,okind,vpre,vpure,intBin,intPre,strBin,strPre,popTo,argSlots,fldV,fldAV,subCells,idxVV,idxAAV,idxSV,sliceV,sliceSV,boundV,szIs,storeOp,storeS,setRowV,eff,extV,buildV,splice,eqSV,fitsL,eqCells,eqCell,minmaxV,capV,binBV,nilCheckV,bytesV,V.cells,V.stays,h1,h3,h4,encN,Nd.cells,O4_67,cR_b,lenV_encI,mx])
      refine And.intro (fun hlt => ?_) (fun hge => ?_)
      · have hlt' : i < x.words.length := by omega
        have ht := all_take (isFrom · 1 mx) x.words i hlt'
        rw [hp, Bool.true_and] at ht
        simp -implicitDefEqProofs only [BB,seval,effR_some,effD_some,← decide_not,okind,vpre,vpure,intBin,intPre,strBin,strPre,popTo,argSlots,fldV,fldAV,subCells,idxVV,idxAAV,idxSV,sliceV,sliceSV,boundV,szIs,storeOp,storeS,setRowV,eff,extV,buildV,splice,eqSV,fitsL,eqCells,eqCell,minmaxV,capV,binBV,nilCheckV,bytesV,V.cells,V.stays,idxAV_encI hlt',O4_67,h1,h3,h4,mx,cR_b]
        refine And.intro (fun hw => ?_) (fun hw => ?_)
        · refine RetV.pure ((SubStore.refl σ).upd hid) ?_
          have hw' : isFrom x.words[i] 1 mx = false := by simp at hw; simp [isFrom, mx]; omega
          rw [hok]
          have : (x.words.all (isFrom · 1 mx)) = false := by
            rw [List.all_eq_false]
            exact ⟨_, List.getElem_mem hlt', by simp [hw']⟩
          simp [this]
        · have hw' : isFrom x.words[i] 1 mx = true := by simp at hw; simp [isFrom, mx]; omega
          refine ⟨inR_i64 (by omega) (by omega), _, ?_, i + 1, by omega, rfl, ?_, ?_⟩
          · omega
          · rw [← mx, ht]; exact hw'
          · simp
      · have hi' : i = x.words.length := by simp at hge; omega
        subst hi'
        rw [List.take_length] at hp
        rw [hok, hp]
        repeat' (first
          | with_reducible refine And.intro (fun h => ?_) (fun h => ?_)
          | with_reducible refine RetV.pure ((SubStore.refl σ).upd hid) ?_)
        all_goals try simp -implicitDefEqProofs only [BB,seval,effR_some,effD_some,← decide_not,okind,vpre,vpure,intBin,intPre,strBin,strPre,popTo,argSlots,fldV,fldAV,subCells,idxVV,idxAAV,idxSV,sliceV,sliceSV,boundV,szIs,storeOp,storeS,setRowV,eff,extV,buildV,splice,eqSV,fitsL,eqCells,eqCell,minmaxV,capV,binBV,nilCheckV,bytesV,V.cells,V.stays,V.bool.injEq]
        all_goals (rw [Bool.eq_iff_iff]; simp_all [isFrom, mx] <;> omega)
  · have hst : x.st = Sty.zero := by rw [hz]; simp at hs; simp_all
    have h1 : x.kind ≠ 1 := by simpa using hk
    have hok : x.ok = (decide (x.line = 0) && decide (x.space = 0) && decide (x.words.length = 0) && isFrom x.w 1 mx && isFrom x.h 1 mx &&
      (decide (x.kind = 3) && decide (x.side = 0) || decide (x.kind = 4) && isFrom x.side 1 2)) := by have h2 : x.kind ≠ 2 := (by simpa using hk2); simp [Nd.ok, h1, h2, hst]
    rw [hok]
    repeat' (first
      | with_reducible refine And.intro (fun h => ?_) (fun h => ?_)
      | with_reducible refine RetV.pure ((SubStore.refl σ).upd hid) ?_)
    all_goals try simp -implicitDefEqProofs only [BB,seval,effR_some,effD_some,← decide_not,okind,vpre,vpure,intBin,intPre,strBin,strPre,popTo,argSlots,fldV,fldAV,subCells,idxVV,idxAAV,idxSV,sliceV,sliceSV,boundV,szIs,storeOp,storeS,setRowV,eff,extV,buildV,splice,eqSV,fitsL,eqCells,eqCell,minmaxV,capV,binBV,nilCheckV,bytesV,V.cells,V.stays,V.bool.injEq]
    all_goals (rw [Bool.eq_iff_iff]; simp_all [isFrom, mx] <;> omega)
end Go.Vc
namespace Go.Vc
open Go.Proofs
theorem idxAV_encNs {σ : Store} {l : List Nd} {i : Nat} (h : i < l.length) : idxAV σ 20 (encNs l) (.int .i64 i) = some (.rp (.agg (Nd.cells l[i]))) := by
  simp [encNs, idxAV, h, encN]
def rowsB (l : List Nd) (a e : Nat) : Bool :=
  if _h : a < e then
    match l[a]? with
    | none => false
    | some x => if _hx : 1 ≤ x.size ∧ x.size ≤ (e : Int) - a then
        (decide (x.kind = 1) || decide (x.size ≤ 1)) && rowsB l (a + 1) (a + x.size.toNat) && rowsB l (a + x.size.toNat) e else false
  else true
termination_by e - a
decreasing_by all_goals omega
set_option maxRecDepth 100000 in
theorem rows_c (l : List Nd) (hl : l.length ≤ 1000000000000) : ∀ (m a e : Nat), e - a < m → a ≤ e → e ≤ l.length → PFun Tryd.prog 88 [encNs l, vI a, vI e] (.bool (rowsB l a e))
  | 0, _, _, h, _, _ => by omega
  | m + 1, a, e, hm, hae, he => fun σ => by
    refine Contract.of_runs Tryd.func88 e88 k88 (by simp [c88]) ?_
    refine Runs.mix 8 ?_
    (refine Runs.of_step Orc.nothing 300 ?_; simp -implicitDefEqProofs only [BB,seval,effR_some,effD_some,← decide_not,okind,vpre,vpure,intBin,intPre,strBin,strPre,popTo,argSlots,fldV,fldAV,subCells,idxVV,idxAAV,idxSV,sliceV,sliceSV,boundV,szIs,storeOp,storeS,setRowV,eff,extV,buildV,splice,eqSV,fitsL,eqCells,eqCell,minmaxV,capV,binBV,nilCheckV,bytesV,V.cells,V.stays,Orc.nothing,c88])
    refine Runs.loop (fun mm st => ∃ b : Nat, a ≤ b ∧ b ≤ e ∧ mm = e - b ∧ rowsB l a e = rowsB l b e ∧ SubStore σ st.σ ∧ st.s 0 = encNs l ∧ st.s 1 = vI b ∧ st.s 2 = vI e) (e - a) ?_ ?_
    · exact ⟨a, by omega, by omega, rfl, rfl, SubStore.refl σ, rfl, rfl, rfl⟩
    · rintro mm ⟨s, σ'⟩ ⟨b, hab, hbe, rfl, hr, hsub, h0, h1, h2⟩
      simp only at h0 h1 h2 hsub
      refine Runs.mix 8 ?_
      (refine Runs.of_step Orc.nothing 300 ?_; simp -implicitDefEqProofs only [BB,seval,effR_some,effD_some,← decide_not,okind,vpre,vpure,intBin,intPre,strBin,strPre,popTo,argSlots,fldV,fldAV,subCells,idxVV,idxAAV,idxSV,sliceV,sliceSV,boundV,szIs,storeOp,storeS,setRowV,eff,extV,buildV,splice,eqSV,fitsL,eqCells,eqCell,minmaxV,capV,binBV,nilCheckV,bytesV,V.cells,V.stays,Orc.nothing,h0,h1,h2,cR_b,Nd.cells])
      refine And.intro (fun hlt => ?_) (fun hge => ?_)
      · have hlt' : b < l.length := by simp at hlt; omega
        simp -implicitDefEqProofs only [BB,seval,effR_some,effD_some,← decide_not,okind,vpre,vpure,intBin,intPre,strBin,strPre,popTo,argSlots,fldV,fldAV,subCells,idxVV,idxAAV,idxSV,sliceV,sliceSV,boundV,szIs,storeOp,storeS,setRowV,eff,extV,buildV,splice,eqSV,fitsL,eqCells,eqCell,minmaxV,capV,binBV,nilCheckV,bytesV,V.cells,V.stays,idxAV_encNs hlt',h0,h1,h2,cR_b,Nd.cells]
        intro id hid
        have hsub' := hsub.upd hid (o := ⟨37, 20, [.agg (Nd.cells l[b])]⟩)
        have hb : l[b]? = some l[b] := by simp [hlt']
        have hlt2 : b < e := by simp at hlt; omega
        have hR : rowsB l b e = if _hx : 1 ≤ l[b].size ∧ l[b].size ≤ (e : Int) - b then
          (decide (l[b].kind = 1) || decide (l[b].size ≤ 1)) && rowsB l (b + 1) (b + l[b].size.toNat) && rowsB l (b + l[b].size.toNat) e else false := by
          rw [rowsB, dif_pos hlt2, hb]
        refine And.intro (fun hs => ?_) (fun hs => ?_)
        · refine ⟨inR_i64 (by omega) (by omega), And.intro (fun hs2 => ?_) (fun hs2 => ?_)⟩
          · have hx : 1 ≤ l[b].size ∧ l[b].size ≤ (e : Int) - b := by simp at hs hs2; omega
            rw [dif_pos hx] at hR
            have ih := rows_c l hl m (b + 1) (b + l[b].size.toNat) (by omega) (by omega) (by omega)
            have e2 : ((b + l[b].size.toNat : Nat) : Int) = b + l[b].size := by omega
            rw [e2, Int.natCast_add, Int.natCast_one] at ih
            refine And.intro (fun hk => And.intro (fun hs3 => ?_) (fun hs3 => ?_)) (fun hk => ?_)
            · refine ⟨inR_i64 (by omega) (by omega), inR_i64 (by omega) (by omega), ?_⟩
              refine Runs.pcall rfl rfl rfl (ih _) ?_
              (refine Runs.of_step Orc.nothing 300 ?_; simp -implicitDefEqProofs only [BB,seval,effR_some,effD_some,← decide_not,okind,vpre,vpure,intBin,intPre,strBin,strPre,popTo,argSlots,fldV,fldAV,subCells,idxVV,idxAAV,idxSV,sliceV,sliceSV,boundV,szIs,storeOp,storeS,setRowV,eff,extV,buildV,splice,eqSV,fitsL,eqCells,eqCell,minmaxV,capV,binBV,nilCheckV,bytesV,V.cells,V.stays,Orc.nothing,h0,h1,h2,cR_b,Nd.cells])
              refine And.intro (fun hf => ?_) (fun hf => ?_)
              · refine RetV.pure hsub' ?_
                simp only [Bool.not_eq_eq_eq_not,Bool.not_true] at hf
                rw [hr, hR, hf]; simp
              · simp only [Bool.not_eq_eq_eq_not,Bool.not_false] at hf
                refine ⟨inR_i64 (by omega) (by omega), _, ?_, b + l[b].size.toNat, by omega, by omega, rfl, ?_, hsub', ?_⟩
                · omega
                · rw [hr, hR, hf]; simp; omega
                · rw [e2]
            · refine RetV.pure hsub' ?_
              rw [hr, hR]
              have : ¬ l[b].size ≤ 1 := by omega
              simp [hk, this]
            · refine ⟨inR_i64 (by omega) (by omega), inR_i64 (by omega) (by omega), ?_⟩
              refine Runs.pcall rfl rfl rfl (ih _) ?_
              (refine Runs.of_step Orc.nothing 300 ?_; simp -implicitDefEqProofs only [BB,seval,effR_some,effD_some,← decide_not,okind,vpre,vpure,intBin,intPre,strBin,strPre,popTo,argSlots,fldV,fldAV,subCells,idxVV,idxAAV,idxSV,sliceV,sliceSV,boundV,szIs,storeOp,storeS,setRowV,eff,extV,buildV,splice,eqSV,fitsL,eqCells,eqCell,minmaxV,capV,binBV,nilCheckV,bytesV,V.cells,V.stays,Orc.nothing,h0,h1,h2,cR_b,Nd.cells])
              refine And.intro (fun hf => ?_) (fun hf => ?_)
              · refine RetV.pure hsub' ?_
                simp only [Bool.not_eq_eq_eq_not,Bool.not_true] at hf
                rw [hr, hR, hf]; simp
              · simp only [Bool.not_eq_eq_eq_not,Bool.not_false] at hf
                refine ⟨inR_i64 (by omega) (by omega), _, ?_, b + l[b].size.toNat, by omega, by omega, rfl, ?_, hsub', ?_⟩
                · omega
                · rw [hr, hR, hf]; simp; omega
                · rw [e2]
          · refine RetV.pure hsub' ?_
            rw [hr, hR, dif_neg (by omega)]
        · refine RetV.pure hsub' ?_
          rw [hr, hR, dif_neg (by omega)]
      · have : b = e := by simp at hge; omega
        subst this
        refine RetV.pure hsub ?_
        rw [hr, rowsB]
        simp
end Go.Vc
namespace Go.Vc
open Go.Proofs
def Fine (l : List Nd) : Prop := l.length ≤ 10000 ∧ ∀ x ∈ l, x.words.length ≤ 200000000000000
theorem nall_take {α : Type} (p : α → Bool) (l : List α) (i : Nat) (h : i < l.length) : (l.take (i + 1)).all p = ((l.take i).all p && p l[i]) := by
  rw [List.take_succ_eq_append_getElem h, List.all_append]
  simp
def isB (l : List Nd) : Bool := l.all Nd.ok && rowsB l 0 l.length
theorem loadV_rp_node (σ : Store) (x : Nd) : loadV σ true 20 (.rp (.agg x.cells)) = some (encN x) := rfl
set_option maxRecDepth 100000 in
theorem is_c (l : List Nd) (hl : Fine l) : PFun Tryd.prog 57 [encNs l] (.bool (isB l)) := fun σ => by
  obtain ⟨hl1, hl2⟩ := hl
  refine Contract.of_runs Tryd.func57 e57 k57 (by simp [c57]) ?_
  refine Runs.mix 4 ?_
  (refine Runs.of_step Orc.nothing 300 ?_; simp -implicitDefEqProofs only [BB,seval,effR_some,effD_some,← decide_not,okind,vpre,vpure,intBin,intPre,strBin,strPre,popTo,argSlots,fldV,fldAV,subCells,idxVV,idxAAV,idxSV,sliceV,sliceSV,boundV,szIs,storeOp,storeS,setRowV,eff,extV,buildV,splice,eqSV,fitsL,eqCells,eqCell,minmaxV,capV,binBV,nilCheckV,bytesV,V.cells,V.stays,Orc.nothing,c57])
  refine Runs.loop (fun m st => ∃ i : Nat, i ≤ l.length ∧ m = l.length - i ∧ (l.take i).all Nd.ok = true ∧ st.σ = σ ∧ st.s 0 = encNs l ∧ st.s 3 = vI i) l.length ?_ ?_
  · exact ⟨0, by omega, by omega, by simp, rfl, rfl, rfl⟩
  · rintro m ⟨s, σ'⟩ ⟨i, hi, rfl, hp, hσ, h0, h3⟩
    simp only at h0 h3 hσ
    subst hσ
    refine Runs.mix 4 ?_
    (refine Runs.of_step Orc.nothing 300 ?_; simp -implicitDefEqProofs only [BB,seval,effR_some,effD_some,← decide_not,okind,vpre,vpure,intBin,intPre,strBin,strPre,popTo,argSlots,fldV,fldAV,subCells,idxVV,idxAAV,idxSV,sliceV,sliceSV,boundV,szIs,storeOp,storeS,setRowV,eff,extV,buildV,splice,eqSV,fitsL,eqCells,eqCell,minmaxV,capV,binBV,nilCheckV,bytesV,V.cells,V.stays,Orc.nothing,h0,h3,cR_b,lenV_encNs])
    refine And.intro (fun hlt => ?_) (fun hge => ?_)
    · have hlt' : i < l.length := by simp at hlt; omega
      have ht := nall_take Nd.ok l i hlt'
      rw [hp, Bool.true_and] at ht
      simp -implicitDefEqProofs only [BB,seval,effR_some,effD_some,← decide_not,okind,vpre,vpure,intBin,intPre,strBin,strPre,popTo,argSlots,fldV,fldAV,subCells,idxVV,idxAAV,idxSV,sliceV,sliceSV,boundV,szIs,storeOp,storeS,setRowV,eff,extV,buildV,splice,eqSV,fitsL,eqCells,eqCell,minmaxV,capV,binBV,nilCheckV,bytesV,V.cells,V.stays,idxAV_encNs hlt',loadV_rp_node,h0,h3,cR_b]
      refine Runs.pcall rfl rfl rfl (one_c l[i] (by have := hl2 _ (List.getElem_mem hlt'); omega) _) ?_
      (refine Runs.of_step Orc.nothing 300 ?_; simp -implicitDefEqProofs only [BB,seval,effR_some,effD_some,← decide_not,okind,vpre,vpure,intBin,intPre,strBin,strPre,popTo,argSlots,fldV,fldAV,subCells,idxVV,idxAAV,idxSV,sliceV,sliceSV,boundV,szIs,storeOp,storeS,setRowV,eff,extV,buildV,splice,eqSV,fitsL,eqCells,eqCell,minmaxV,capV,binBV,nilCheckV,bytesV,V.cells,V.stays,Orc.nothing,h0,h3,cR_b])
      refine And.intro (fun hf => ?_) (fun hf => ?_)
      · simp only [Bool.not_eq_eq_eq_not,Bool.not_true] at hf
        refine RetV.same ?_
        have : l.all Nd.ok = false := by
          rw [List.all_eq_false]
          exact ⟨_, List.getElem_mem hlt', by simp [hf]⟩
        simp [isB, this]
      · simp only [Bool.not_eq_eq_eq_not,Bool.not_false] at hf
        refine ⟨inR_i64 (by omega) (by omega), _, ?_, i + 1, by omega, rfl, ?_, ?_⟩
        · omega
        · rw [ht]; exact hf
        · simp
    · have hi' : i = l.length := by simp at hge; omega
      subst hi'
      rw [List.take_length] at hp
      have hr := rows_c l (by omega) (l.length + 1) 0 l.length (by omega) (by omega) (by omega)
      refine Runs.pcall rfl rfl rfl (hr _) ?_
      (refine Runs.of_step Orc.nothing 300 ?_; simp -implicitDefEqProofs only [BB,seval,effR_some,effD_some,← decide_not,okind,vpre,vpure,intBin,intPre,strBin,strPre,popTo,argSlots,fldV,fldAV,subCells,idxVV,idxAAV,idxSV,sliceV,sliceSV,boundV,szIs,storeOp,storeS,setRowV,eff,extV,buildV,splice,eqSV,fitsL,eqCells,eqCell,minmaxV,capV,binBV,nilCheckV,bytesV,V.cells,V.stays,Orc.nothing,h0,h3,cR_b])
      refine RetV.same ?_
      simp [isB, hp]
end Go.Vc
namespace Go.Vc
open Go.Proofs
structure Sm where
  (depth pieces nodes heights : Int)
deriving DecidableEq
def Sm.cells (s : Sm) : List V := [vI s.depth, vI s.pieces, vI s.nodes, vI s.heights]
end Go.Vc
namespace Go.Vc
open Go.Proofs
def Sm.zero : Sm := ⟨0, 0, 0, 0⟩
end Go.Vc
namespace Go.Vc
open Go.Proofs
theorem firstI_any (p : Int → Bool) : ∀ l, decide (firstI p l ≥ 0) = l.any p
  | [] => by simp [firstI]
  | x :: l => by
    have ih := firstI_any p l
    simp only [firstI,List.any_cons]
    have hg := firstI_ge p l
    rw [← ih, Bool.eq_iff_iff]
    simp only [decide_eq_true_eq,Bool.or_eq_true]
    split
    · rename_i h; simp [h]
    · rename_i h
      simp only [h,Bool.false_eq_true,false_or]

      by_cases hx : firstI p l < 0
      · rw [if_pos hx]; constructor <;> intro hh <;> simp at hh ⊢ <;> omega
      · rw [if_neg hx]; constructor <;> intro hh <;> simp at hh ⊢ <;> omega
theorem containsFunc_c {σ : Store} {sv : V} {l : List Int} {f : FuncId} {caps : List V} {p : Int → Bool} (hr : Reads σ 1 false sv (l.map vI)) (hl : l.length ≤ 200000000000000)
    (hf : ∀ n ∈ l, Contract Tryd.prog f (vI n :: caps) σ fun r σ' => r = .bool (p n) ∧ σ' = σ) :
    Contract Tryd.prog 102 [sv, .fn f caps] σ fun r σ' => r = .bool (l.any p) ∧ σ' = σ := by
  refine Contract.of_runs Tryd.func102 e102 k102 (by simp [c102]) ?_
  (refine Runs.of_step Orc.nothing 300 ?_; simp -implicitDefEqProofs only [BB,seval,effR_some,effD_some,← decide_not,okind,vpre,vpure,intBin,intPre,strBin,strPre,popTo,argSlots,fldV,fldAV,subCells,idxVV,idxAAV,idxSV,sliceV,sliceSV,boundV,szIs,storeOp,storeS,setRowV,eff,extV,buildV,splice,eqSV,fitsL,eqCells,eqCell,minmaxV,capV,binBV,nilCheckV,bytesV,V.cells,V.stays,Orc.nothing,c102])
  refine Runs.pcall rfl rfl rfl (indexFunc_c hr hl hf) ?_
  (refine Runs.of_step Orc.nothing 300 ?_; simp -implicitDefEqProofs only [BB,seval,effR_some,effD_some,← decide_not,okind,vpre,vpure,intBin,intPre,strBin,strPre,popTo,argSlots,fldV,fldAV,subCells,idxVV,idxAAV,idxSV,sliceV,sliceSV,boundV,szIs,storeOp,storeS,setRowV,eff,extV,buildV,splice,eqSV,fitsL,eqCells,eqCell,minmaxV,capV,binBV,nilCheckV,bytesV,V.cells,V.stays,Orc.nothing])
  refine RetV.same ?_
  rw [← firstI_any]
theorem has1_c {σ : Store} {id : Nat} {a b : Int} (h : σ id = some ⟨125, 2, [.agg [vI a, vI b]]⟩) (n : Int) :
    Contract Tryd.prog 103 [vI n, .ptr id 0 0] σ fun r σ' => r = .bool (!isFrom n a b) ∧ σ' = σ := by
  refine Contract.of_runs Tryd.func103 e103 k103 (by simp [c103]) ?_
  (refine Runs.of_step Orc.nothing 300 ?_; simp -implicitDefEqProofs only [BB,seval,effR_some,effD_some,← decide_not,okind,vpre,vpure,intBin,intPre,strBin,strPre,popTo,argSlots,fldV,fldAV,subCells,idxVV,idxAAV,idxSV,sliceV,sliceSV,boundV,szIs,storeOp,storeS,setRowV,eff,extV,buildV,splice,eqSV,fitsL,eqCells,eqCell,minmaxV,capV,binBV,nilCheckV,bytesV,V.cells,V.stays,Orc.nothing,c103,h])
  refine And.intro (fun h => ?_) (fun h => ?_)
  · refine RetV.same ?_
    congr 1
    simp only [isFrom]
    rw [← decide_not, decide_eq_decide]
    omega
  · refine RetV.same ?_
    have : ¬ (n ≥ a ∧ n ≤ b) := by omega
    simp only [isFrom,this,decide_false,Bool.not_false]
theorem Reads.mono {σ σ' : Store} {sz : Nat} {agg : Bool} {sv : V} {rows : List V} (h : SubStore σ σ') (hr : Reads σ sz agg sv rows) : Reads σ' sz agg sv rows := by
  refine ⟨hr.1, fun i v hv => ?_⟩
  obtain ⟨p, h1, h2⟩ := hr.2 i v hv
  refine ⟨p, ?_, ?_⟩
  · cases sv <;> simp only [idxAV,reduceCtorEq] at h1 ⊢
    · exact h1
    · rename_i id off len
      cases ho : σ id with
      | none => rw [ho] at h1; cases h1
      | some ob => rw [ho] at h1; rw [h id ob ho]; exact h1
  · cases p <;> simp only [loadV,reduceCtorEq] at h2 ⊢
    · rename_i id i k
      cases ho : σ id with
      | none => rw [ho] at h2; cases h2
      | some ob => rw [ho] at h2; rw [h id ob ho]; exact h2
    · exact h2
theorem has_c {σ : Store} {sv : V} {l : List Int} {a b : Int} (hr : Reads σ 1 false sv (l.map vI)) (hl : l.length ≤ 200000000000000) :
    Contract Tryd.prog 83 [.agg [vI a, vI b], sv] σ fun r σ' => r = .bool (l.all fun n => isFrom n a b) ∧ σ' = σ := by
  refine Contract.of_runs Tryd.func83 e83 k83 (by simp [c83]) ?_
  (refine Runs.of_step Orc.nothing 300 ?_; simp -implicitDefEqProofs only [BB,seval,effR_some,effD_some,← decide_not,okind,vpre,vpure,intBin,intPre,strBin,strPre,popTo,argSlots,fldV,fldAV,subCells,idxVV,idxAAV,idxSV,sliceV,sliceSV,boundV,szIs,storeOp,storeS,setRowV,eff,extV,buildV,splice,eqSV,fitsL,eqCells,eqCell,minmaxV,capV,binBV,nilCheckV,bytesV,V.cells,V.stays,Orc.nothing,c83])
  intro id hid
  refine Runs.pcall rfl rfl rfl (containsFunc_c (p := fun n => !isFrom n a b) (hr.mono ((SubStore.refl σ).upd hid)) hl (fun n _ => has1_c upd_same n)) ?_
  (refine Runs.of_step Orc.nothing 300 ?_; simp -implicitDefEqProofs only [BB,seval,effR_some,effD_some,← decide_not,okind,vpre,vpure,intBin,intPre,strBin,strPre,popTo,argSlots,fldV,fldAV,subCells,idxVV,idxAAV,idxSV,sliceV,sliceSV,boundV,szIs,storeOp,storeS,setRowV,eff,extV,buildV,splice,eqSV,fitsL,eqCells,eqCell,minmaxV,capV,binBV,nilCheckV,bytesV,V.cells,V.stays,Orc.nothing])
  refine RetV.pure ((SubStore.refl σ).upd hid) ?_
  rw [List.all_eq_not_any_not]
end Go.Vc
namespace Go.Vc
open Go.Proofs
def intsOf : List V → Option (List Int)
  | [] => some []
  | .int .i64 n :: l => (intsOf l).map (n :: ·)
  | _ => none
theorem intsOf_eq : ∀ {l : List V} {m : List Int}, intsOf l = some m → l = m.map vI
  | [], m, h => by simp [intsOf] at h; subst h; rfl
  | v :: l, m, h => by
    cases v <;> try (simp [intsOf] at h)
    rename_i k n
    cases k <;> try (simp [intsOf] at h)
    obtain ⟨m', h1, rfl⟩ := h
    rw [intsOf_eq h1]; rfl
theorem intsOf_map (m : List Int) : intsOf (m.map vI) = some m := by
  induction m with
  | nil => rfl
  | cons n m ih => simp [intsOf, ih]
def readInts (σ : Store) : V → Option (List Int)
  | .own id off len => match σ id with
      | some ob => if ob.sz = 1 ∧ off + len ≤ ob.rows.length ∧ len ≤ 200000000000000 then (if (intsOf ob.rows).isSome then intsOf ((ob.rows.drop off).take len) else none) else none
      | none => none
  | .sl 1 rows => if rows.length ≤ 200000000000000 then intsOf rows else none
  | _ => none
theorem readInts_reads {σ : Store} {sv : V} {l : List Int} (h : readInts σ sv = some l) : Reads σ 1 false sv (l.map vI) ∧ l.length ≤ 200000000000000 := by
  unfold readInts at h
  split at h
  · rename_i id off len
    split at h
    · rename_i ob hob
      split at h
      · rename_i hc
        split at h
        · rename_i hi
          have he := intsOf_eq h
          obtain ⟨m, hm⟩ := Option.isSome_iff_exists.1 hi
          have hm := intsOf_eq hm
          have hr := Reads.own (σ := σ) hob hc.1 hc.2.1 (fun r hr => by rw [hm] at hr; simp only [List.mem_map] at hr; obtain ⟨n, _, rfl⟩ := hr; rfl)
          rw [he] at hr
          have hl : l.length = len := by
            have := congrArg List.length he
            simp at this
            omega
          exact ⟨hr, by omega⟩
        · cases h
      · cases h
    · cases h
  · rename_i rows
    split at h
    · rename_i hc
      have he := intsOf_eq h
      subst he
      exact ⟨Reads.ints, by simpa using hc⟩
    · cases h
  · cases h
theorem readInts_mono {σ σ' : Store} (hs : SubStore σ σ') {sv : V} {l : List Int} (h : readInts σ sv = some l) : readInts σ' sv = some l := by
  unfold readInts at h ⊢
  split at h
  · split at h
    · rename_i ob hob
      simp only [hs _ _ hob]
      exact h
    · cases h
  · exact h
  · cases h
theorem readInts_encI (σ : Store) {l : List Int} (h : l.length ≤ 200000000000000) : readInts σ (encI l) = some l := by
  simp only [encI,readInts,List.length_map,if_pos h]
  exact intsOf_map l
def o10 (f : FuncId) (args : List V) (σ : Store) : Option V := if f = 83 then (match args with
  | [.agg [.int .i64 a, .int .i64 b], sv] => (readInts σ sv).map fun l => .bool (l.all fun n => isFrom n a b)
  | _ => none) else none
def O10 : Orc Tryd.prog where
  get := o10
  up f args σ σ' v hs h := by
    unfold o10 at h ⊢
    split at h
    · rename_i hf
      rw [if_pos hf]
      split at h
      · simp only [Option.map_eq_some_iff] at h ⊢
        obtain ⟨l, h1, h2⟩ := h
        exact ⟨l, readInts_mono hs h1, h2⟩
      · cases h
    · cases h
  ok f args σ v h := by
    unfold o10 at h
    split at h
    · rename_i hf
      subst hf
      split at h
      · simp only [Option.map_eq_some_iff] at h
        obtain ⟨l, h1, rfl⟩ := h
        obtain ⟨g1, g2⟩ := readInts_reads h1
        exact has_c g1 g2
      · cases h
    · cases h
theorem O10_65 (a b : Int) (sv : V) (σ : Store) : O10.get 83 [.agg [.int .i64 a, .int .i64 b], sv] σ = (readInts σ sv).map fun l => .bool (l.all fun n => isFrom n a b) := rfl
theorem readInts_own (σ : Store) (id off len : Nat) : readInts σ (.own id off len) = match σ id with
      | some ob => if ob.sz = 1 ∧ off + len ≤ ob.rows.length ∧ len ≤ 200000000000000 then (if (intsOf ob.rows).isSome then intsOf ((ob.rows.drop off).take len) else none) else none
      | none => none := rfl
theorem intsOf_int (n : Int) (l : List V) : intsOf (.int .i64 n :: l) = (intsOf l).map (n :: ·) := rfl
theorem intsOf_nil : intsOf [] = some [] := rfl
set_option maxRecDepth 100000 in
theorem styled_c (s : Sty) : PFun Tryd.prog 82 [.agg s.cells] (.bool s.ok) := fun σ => by
  refine Contract.of_runs Tryd.func82 e82 k82 (by simp [c82]) ?_
  refine Runs.mix 6 ?_
  (refine Runs.of_step O10 300 ?_; simp -implicitDefEqProofs only [BB,seval,← decide_not,okind,vpre,vpure,intBin,intPre,strBin,strPre,popTo,argSlots,fldV,fldAV,subCells,idxVV,idxAAV,idxSV,sliceV,sliceSV,boundV,szIs,storeOp,storeS,setRowV,eff,extV,buildV,splice,eqSV,fitsL,eqCells,eqCell,minmaxV,capV,binBV,nilCheckV,bytesV,V.cells,V.stays,c82,Sty.cells])
  refine effR_new fun id1 σ1 s1 a1 f1 => ?_
  simp -implicitDefEqProofs only [BB,seval,← decide_not,okind,vpre,vpure,intBin,intPre,strBin,strPre,popTo,argSlots,fldV,fldAV,subCells,idxVV,idxAAV,idxSV,sliceV,sliceSV,boundV,szIs,storeOp,storeS,setRowV,eff,extV,buildV,splice,eqSV,fitsL,eqCells,eqCell,minmaxV,capV,binBV,nilCheckV,bytesV,V.cells,V.stays]
  refine effR_new fun id3 σ2 s2 a3 f3 => ?_
  have n13 := ne_new a1 f3
  have a1 := s2 _ _ a1
  simp -implicitDefEqProofs only [BB,seval,← decide_not,okind,vpre,vpure,intBin,intPre,strBin,strPre,popTo,argSlots,fldV,fldAV,subCells,idxVV,idxAAV,idxSV,sliceV,sliceSV,boundV,szIs,storeOp,storeS,setRowV,eff,extV,buildV,splice,eqSV,fitsL,eqCells,eqCell,minmaxV,capV,binBV,nilCheckV,bytesV,V.cells,V.stays,a1]
  refine effR_new fun id4 σ3 s3 a4 f4 => ?_
  have n14 := ne_new a1 f4
  have n34 := ne_new a3 f4
  have a1 := s3 _ _ a1
  have a3 := s3 _ _ a3
  have hs : SubStore σ σ3 := (s1.trans s2).trans s3
  have g3 : σ id3 = none := s1.none f3
  have g4 : σ id4 = none := (s1.trans s2).none f4
  simp -implicitDefEqProofs only [BB,seval,← decide_not,okind,vpre,vpure,intBin,intPre,strBin,strPre,popTo,argSlots,fldV,fldAV,subCells,idxVV,idxAAV,idxSV,sliceV,sliceSV,boundV,szIs,storeOp,storeS,setRowV,eff,extV,buildV,splice,eqSV,fitsL,eqCells,eqCell,minmaxV,capV,binBV,nilCheckV,bytesV,V.cells,V.stays,a1,a3,a4,upd_ne n34,upd_ne n34.symm,upd_ne n13,upd_ne n14]
  have hs' := fun o o' => (hs.updK (o := o) g3).updK (o := o') g4
  refine effR_new fun id5 σ4 s4 a5 f5 => ?_
  have a1 := s4 id1 _ (by rw [upd_ne n14, upd_ne n13]; exact a1)
  have a4 := s4 id4 _ upd_same
  have hs := (hs' _ _).trans s4
  simp -implicitDefEqProofs only [BB,seval,← decide_not,okind,vpre,vpure,intBin,intPre,strBin,strPre,popTo,argSlots,fldV,fldAV,subCells,idxVV,idxAAV,idxSV,sliceV,sliceSV,boundV,szIs,storeOp,storeS,setRowV,eff,extV,buildV,splice,eqSV,fitsL,eqCells,eqCell,minmaxV,capV,binBV,nilCheckV,bytesV,V.cells,V.stays,a1,a4,a5,O10_65,readInts_own,intsOf_int,intsOf_nil,isFrom,← Bool.decide_and]
  refine And.intro (fun p0 => ?_) (fun p0 => RetV.pure hs (by rw [V.bool.injEq]; symm; rw [Bool.eq_false_iff]; intro h; simp [Sty.ok, isFrom, mx] at h; omega))
  refine effR_new fun id6 σ5 s5 a6 f6 => ?_
  have a1 := s5 _ _ a1
  have hs := hs.trans s5
  simp -implicitDefEqProofs only [BB,seval,← decide_not,okind,vpre,vpure,intBin,intPre,strBin,strPre,popTo,argSlots,fldV,fldAV,subCells,idxVV,idxAAV,idxSV,sliceV,sliceSV,boundV,szIs,storeOp,storeS,setRowV,eff,extV,buildV,splice,eqSV,fitsL,eqCells,eqCell,minmaxV,capV,binBV,nilCheckV,bytesV,V.cells,V.stays,a1,a6,O10_65,readInts_own,intsOf_int,intsOf_nil,isFrom,← Bool.decide_and]
  refine And.intro (fun p1 => ?_) (fun p1 => RetV.pure hs (by rw [V.bool.injEq]; symm; rw [Bool.eq_false_iff]; intro h; simp [Sty.ok, isFrom, mx] at h; omega))
  refine effR_new fun id7 σ6 s6 a7 f7 => ?_
  have a1 := s6 _ _ a1
  have hs := hs.trans s6
  simp -implicitDefEqProofs only [BB,seval,← decide_not,okind,vpre,vpure,intBin,intPre,strBin,strPre,popTo,argSlots,fldV,fldAV,subCells,idxVV,idxAAV,idxSV,sliceV,sliceSV,boundV,szIs,storeOp,storeS,setRowV,eff,extV,buildV,splice,eqSV,fitsL,eqCells,eqCell,minmaxV,capV,binBV,nilCheckV,bytesV,V.cells,V.stays,a1,a7,O10_65,readInts_own,intsOf_int,intsOf_nil,isFrom,← Bool.decide_and]
  refine And.intro (fun p2 => ?_) (fun p2 => RetV.pure hs (by rw [V.bool.injEq]; symm; rw [Bool.eq_false_iff]; intro h; simp [Sty.ok, isFrom, mx] at h; omega))
  refine effR_new fun id8 σ7 s7 a8 f8 => ?_
  have a1 := s7 _ _ a1
  have hs := hs.trans s7
  simp -implicitDefEqProofs only [BB,seval,← decide_not,okind,vpre,vpure,intBin,intPre,strBin,strPre,popTo,argSlots,fldV,fldAV,subCells,idxVV,idxAAV,idxSV,sliceV,sliceSV,boundV,szIs,storeOp,storeS,setRowV,eff,extV,buildV,splice,eqSV,fitsL,eqCells,eqCell,minmaxV,capV,binBV,nilCheckV,bytesV,V.cells,V.stays,a1,a8,O10_65,readInts_own,intsOf_int,intsOf_nil,isFrom,← Bool.decide_and]
  refine And.intro (fun p3 => ?_) (fun p3 => RetV.pure hs (by rw [V.bool.injEq]; symm; rw [Bool.eq_false_iff]; intro h; simp [Sty.ok, isFrom, mx] at h; omega))
  refine effR_new fun id9 σ8 s8 a9 f9 => ?_
  have a1 := s8 _ _ a1
  have hs := hs.trans s8
  simp -implicitDefEqProofs only [BB,seval,← decide_not,okind,vpre,vpure,intBin,intPre,strBin,strPre,popTo,argSlots,fldV,fldAV,subCells,idxVV,idxAAV,idxSV,sliceV,sliceSV,boundV,szIs,storeOp,storeS,setRowV,eff,extV,buildV,splice,eqSV,fitsL,eqCells,eqCell,minmaxV,capV,binBV,nilCheckV,bytesV,V.cells,V.stays,a1,a9,O10_65,readInts_own,intsOf_int,intsOf_nil,isFrom,← Bool.decide_and]
  refine RetV.pure hs ?_
  rw [V.bool.injEq, Bool.eq_iff_iff]
  simp [Sty.ok, isFrom, mx]
  omega
end Go.Vc
namespace Go.Vc
open Go.Proofs
def o12 (f : FuncId) (args : List V) (σ : Store) : Option V := if f = 83 then (match args with
  | [.agg [.int .i64 a, .int .i64 b], sv] => (readInts σ sv).map fun l => .bool (l.all fun n => isFrom n a b)
  | _ => none) else if f = 82 then (match args with
  | [.agg [.int .i64 a, .int .i64 b, .int .i64 c, .int .i64 d, .int .i64 e, .int .i64 f, .int .i64 g, .int .i64 h, .int .i64 i, .int .i64 j, .int .i64 k, .int .i64 l]] => some (.bool (Sty.ok ⟨a, b, c, d, e, f, g, h, i, j, k, l⟩))
  | _ => none) else none
def O12 : Orc Tryd.prog where
  get := o12
  up f args σ σ' v hs h := by
    unfold o12 at h ⊢
    split at h
    · rename_i hf
      rw [if_pos hf]
      split at h
      · simp only [Option.map_eq_some_iff] at h ⊢
        obtain ⟨l, h1, h2⟩ := h
        exact ⟨l, readInts_mono hs h1, h2⟩
      · cases h
    · rename_i hf
      rw [if_neg hf]
      exact h
  ok f args σ v h := by
    unfold o12 at h
    split at h
    · rename_i hf
      subst hf
      split at h
      · simp only [Option.map_eq_some_iff] at h
        obtain ⟨l, h1, rfl⟩ := h
        obtain ⟨g1, g2⟩ := readInts_reads h1
        exact has_c g1 g2
      · cases h
    · split at h
      · rename_i hf
        subst hf
        split at h
        · simp only [Option.some.injEq] at h
          subst h
          exact styled_c ⟨_, _, _, _, _, _, _, _, _, _, _, _⟩ σ
        · cases h
      · cases h
theorem O12_65 (a b : Int) (sv : V) (σ : Store) : O12.get 83 [.agg [.int .i64 a, .int .i64 b], sv] σ = (readInts σ sv).map fun l => .bool (l.all fun n => isFrom n a b) := rfl
theorem O12_64 (a b c d e f g h i j k l : Int) (σ : Store) : O12.get 82 [.agg [.int .i64 a, .int .i64 b, .int .i64 c, .int .i64 d, .int .i64 e, .int .i64 f, .int .i64 g, .int .i64 h, .int .i64 i, .int .i64 j, .int .i64 k, .int .i64 l]] σ =
  some (.bool (Sty.ok ⟨a, b, c, d, e, f, g, h, i, j, k, l⟩)) := rfl
theorem isZero_eq (s : Sty) : (decide (s.top = 0) && (decide (s.bottom = 0) && (decide (s.padTop = 0) && (decide (s.padBottom = 0) && (decide (s.inset = 0) && (decide (s.orphans = 0) && (decide (s.widows = 0) && (decide (s.head = 0) &&
    (decide (s.before = 0) && (decide (s.after = 0) && (decide (s.inside = 0) && decide (s.clear = 0)))))))))))) = decide (s = Sty.zero) := by
  rw [Bool.eq_iff_iff]
  cases s
  simp [Sty.zero]
set_option maxRecDepth 100000 in
theorem fits_c4 (x : Nd) (hl : x.words.length ≤ 200000000000000) (k4 : x.kind = 4) : PFun Tryd.prog 49 [encN x] (.bool x.ok) := fun σ => by
  refine Contract.of_runs Tryd.func49 e49 k49 (by simp [c49]) ?_
  refine Runs.mix 6 ?_
  (refine Runs.of_step O12 300 ?_; simp -implicitDefEqProofs only [BB,seval,← decide_not,okind,vpre,vpure,intBin,intPre,strBin,strPre,popTo,argSlots,fldV,fldAV,subCells,idxVV,idxAAV,idxSV,sliceV,sliceSV,boundV,szIs,storeOp,storeS,setRowV,eff,extV,buildV,splice,eqSV,fitsL,eqCells,eqCell,minmaxV,capV,binBV,nilCheckV,bytesV,V.cells,V.stays,c49,encN,Nd.cells])
  refine effR_new fun id1 σ1 s1 a1 f1 => ?_
  simp -implicitDefEqProofs only [BB,seval,← decide_not,okind,vpre,vpure,intBin,intPre,strBin,strPre,popTo,argSlots,fldV,fldAV,subCells,idxVV,idxAAV,idxSV,sliceV,sliceSV,boundV,szIs,storeOp,storeS,setRowV,eff,extV,buildV,splice,eqSV,fitsL,eqCells,eqCell,minmaxV,capV,binBV,nilCheckV,bytesV,V.cells,V.stays,a1]
  refine effR_new fun id3 σ2 s2 a3 f3 => ?_
  have n13 := ne_new a1 f3
  have a1 := s2 _ _ a1
  have hs := (s1.trans s2).updK (s1.none f3) (o := ⟨125, 2, [.agg [vI 1, vI 1099511627776]]⟩)
  have hok3 : x.ok = (decide (x.st = Sty.zero) && (decide (x.line = 0) && decide (x.space = 0) && decide (x.words.length = 0) && isFrom x.w 1 mx && isFrom x.h 1 mx && isFrom x.side 1 2)) := by
    by_cases hst : x.st = Sty.zero <;> simp [Nd.ok, k4, hst]
  simp -implicitDefEqProofs only [BB,seval,← decide_not,okind,vpre,vpure,intBin,intPre,strBin,strPre,popTo,argSlots,fldV,fldAV,subCells,idxVV,idxAAV,idxSV,sliceV,sliceSV,boundV,szIs,storeOp,storeS,setRowV,eff,extV,buildV,splice,eqSV,fitsL,eqCells,eqCell,minmaxV,capV,binBV,nilCheckV,bytesV,V.cells,V.stays,a1,a3,upd_ne n13,isZero_eq,lenV_encI,k4,O12_64,cR_b,upd_same]
  refine And.intro (fun e1 => And.intro (fun e2 => And.intro (fun z => And.intro (fun w => ?_) (fun w => ?_)) (fun z => ?_)) (fun e2 => ?_)) (fun e1 => ?_)
  · refine effR_new fun id4 σ3 s3 a4 f4 => ?_
    have a1 := s3 id1 _ (by rw [upd_ne n13]; exact a1)
    have a3 := s3 id3 _ upd_same
    have hs := hs.trans s3
    simp -implicitDefEqProofs only [BB,seval,← decide_not,okind,vpre,vpure,intBin,intPre,strBin,strPre,popTo,argSlots,fldV,fldAV,subCells,idxVV,idxAAV,idxSV,sliceV,sliceSV,boundV,szIs,storeOp,storeS,setRowV,eff,extV,buildV,splice,eqSV,fitsL,eqCells,eqCell,minmaxV,capV,binBV,nilCheckV,bytesV,V.cells,V.stays,a1,a3,a4,O12_65,readInts_own,intsOf_int,intsOf_nil,isFrom,List.all_cons,List.all_nil,← Bool.decide_and]
    refine And.intro (fun q1 => ?_) (fun q1 => RetV.pure hs ?_)
    · refine effR_new fun id5 σ4 s4 a5 f5 => ?_
      have a1 := s4 _ _ a1
      have hs := hs.trans s4
      simp -implicitDefEqProofs only [BB,seval,← decide_not,okind,vpre,vpure,intBin,intPre,strBin,strPre,popTo,argSlots,fldV,fldAV,subCells,idxVV,idxAAV,idxSV,sliceV,sliceSV,boundV,szIs,storeOp,storeS,setRowV,eff,extV,buildV,splice,eqSV,fitsL,eqCells,eqCell,minmaxV,capV,binBV,nilCheckV,bytesV,V.cells,V.stays,a1,a5,O12_65,readInts_own,intsOf_int,intsOf_nil,isFrom,List.all_cons,List.all_nil,← Bool.decide_and]
      refine RetV.pure hs ?_
      rw [V.bool.injEq, hok3, Bool.eq_iff_iff]
      simp only [isFrom,mx]
      simp at w
      simp [e1, e2, z, w]
      omega
    · rw [V.bool.injEq, hok3, Bool.eq_iff_iff]
      simp only [isFrom,mx]
      simp [e1, e2, z]
      omega
  all_goals (repeat' (first
    | with_reducible refine And.intro (fun h => ?_) (fun h => ?_)
    | with_reducible refine RetV.pure hs ?_))
  all_goals (rw [V.bool.injEq, hok3, Bool.eq_iff_iff]; simp_all)
set_option maxRecDepth 100000 in
theorem fits_c (x : Nd) (hl : x.words.length ≤ 200000000000000) : PFun Tryd.prog 49 [encN x] (.bool x.ok) := fun σ => by
  by_cases k4 : x.kind = 4
  · exact fits_c4 x hl k4 σ
  refine Contract.of_runs Tryd.func49 e49 k49 (by simp [c49]) ?_
  refine Runs.mix 6 ?_
  (refine Runs.of_step O12 300 ?_; simp -implicitDefEqProofs only [BB,seval,← decide_not,okind,vpre,vpure,intBin,intPre,strBin,strPre,popTo,argSlots,fldV,fldAV,subCells,idxVV,idxAAV,idxSV,sliceV,sliceSV,boundV,szIs,storeOp,storeS,setRowV,eff,extV,buildV,splice,eqSV,fitsL,eqCells,eqCell,minmaxV,capV,binBV,nilCheckV,bytesV,V.cells,V.stays,c49,encN,Nd.cells])
  refine effR_new fun id1 σ1 s1 a1 f1 => ?_
  simp -implicitDefEqProofs only [BB,seval,← decide_not,okind,vpre,vpure,intBin,intPre,strBin,strPre,popTo,argSlots,fldV,fldAV,subCells,idxVV,idxAAV,idxSV,sliceV,sliceSV,boundV,szIs,storeOp,storeS,setRowV,eff,extV,buildV,splice,eqSV,fitsL,eqCells,eqCell,minmaxV,capV,binBV,nilCheckV,bytesV,V.cells,V.stays,a1]
  refine effR_new fun id3 σ2 s2 a3 f3 => ?_
  have n13 := ne_new a1 f3
  have a1 := s2 _ _ a1
  have hs := (s1.trans s2).updK (s1.none f3) (o := ⟨125, 2, [.agg [vI 1, vI 1099511627776]]⟩)
  have hz : (x.kind = 1 → x.ok = (x.st.ok && decide (x.line = 0) && decide (x.space = 0) && decide (x.words.length = 0) && decide (x.side = 0) && decide (x.w = 0) && decide (x.h = 0))) := fun h => by simp [Nd.ok, h]
  have hwl : x.words.length ≤ 200000000000000 := by omega
  by_cases k1 : x.kind = 1
  · simp -implicitDefEqProofs only [BB,seval,← decide_not,okind,vpre,vpure,intBin,intPre,strBin,strPre,popTo,argSlots,fldV,fldAV,subCells,idxVV,idxAAV,idxSV,sliceV,sliceSV,boundV,szIs,storeOp,storeS,setRowV,eff,extV,buildV,splice,eqSV,fitsL,eqCells,eqCell,minmaxV,capV,binBV,nilCheckV,bytesV,V.cells,V.stays,a1,a3,upd_ne n13,isZero_eq,lenV_encI,k1,O12_64,cR_b]
    rw [hz k1]
    repeat' (first
      | with_reducible refine And.intro (fun h => ?_) (fun h => ?_)
      | with_reducible refine RetV.pure hs ?_)
    all_goals (rw [V.bool.injEq, Bool.eq_iff_iff]; simp_all)
  · by_cases k2 : x.kind = 2
    · by_cases e1 : x.line = 0
      · have hok0 : x.ok = false := by
          by_cases hst : x.st = Sty.zero <;> simp [Nd.ok, k2, hst, e1, isFrom]
        rw [hok0]
        simp -implicitDefEqProofs only [BB,seval,← decide_not,okind,vpre,vpure,intBin,intPre,strBin,strPre,popTo,argSlots,fldV,fldAV,subCells,idxVV,idxAAV,idxSV,sliceV,sliceSV,boundV,szIs,storeOp,storeS,setRowV,eff,extV,buildV,splice,eqSV,fitsL,eqCells,eqCell,minmaxV,capV,binBV,nilCheckV,bytesV,V.cells,V.stays,a1,a3,upd_ne n13,isZero_eq,lenV_encI,k1,k2,e1,O12_64,cR_b,upd_same]
        repeat' (first
          | with_reducible refine And.intro (fun h => ?_) (fun h => ?_)
          | with_reducible refine RetV.pure hs rfl
          | (refine effR_new fun id4 σ3 s3 a4 f4 => ?_
             have a1 := s3 id1 _ (by rw [upd_ne n13]; exact a1)
             have a3 := s3 id3 _ upd_same
             simp -implicitDefEqProofs only [BB,seval,← decide_not,okind,vpre,vpure,intBin,intPre,strBin,strPre,popTo,argSlots,fldV,fldAV,subCells,idxVV,idxAAV,idxSV,sliceV,sliceSV,boundV,szIs,storeOp,storeS,setRowV,eff,extV,buildV,splice,eqSV,fitsL,eqCells,eqCell,minmaxV,capV,binBV,nilCheckV,bytesV,V.cells,V.stays,a1,a3,a4,O12_65,readInts_own,intsOf_int,intsOf_nil,isFrom,List.all_cons,List.all_nil,false_and]
             exact RetV.pure (hs.trans s3) rfl))
      · simp -implicitDefEqProofs only [BB,seval,← decide_not,okind,vpre,vpure,intBin,intPre,strBin,strPre,popTo,argSlots,fldV,fldAV,subCells,idxVV,idxAAV,idxSV,sliceV,sliceSV,boundV,szIs,storeOp,storeS,setRowV,eff,extV,buildV,splice,eqSV,fitsL,eqCells,eqCell,minmaxV,capV,binBV,nilCheckV,bytesV,V.cells,V.stays,a1,a3,upd_ne n13,isZero_eq,lenV_encI,k1,k2,e1,O12_64,cR_b,upd_same]
        have hok2 : x.ok = (decide (x.st = Sty.zero) && (x.words.all (isFrom · 1 mx) && decide (0 < x.words.length) && isFrom x.line 1 mx && isFrom x.space 0 mx && decide (x.side = 0) && decide (x.w = 0) && decide (x.h = 0))) := by
          by_cases hst : x.st = Sty.zero <;> simp [Nd.ok, k2, hst]
        refine And.intro (fun z => ?_) (fun z => RetV.pure hs (by rw [hok2]; simp_all))
        refine And.intro (fun w1 => ?_) (fun w1 => RetV.pure hs (by rw [hok2]; simp [w1]))
        refine And.intro (fun w2 => ?_) (fun w2 => RetV.pure hs (by rw [hok2]; simp [w2]))
        refine And.intro (fun w3 => ?_) (fun w3 => RetV.pure hs (by rw [hok2]; simp [w3]))
        refine effR_new fun id4 σ3 s3 a4 f4 => ?_
        have a1 := s3 id1 _ (by rw [upd_ne n13]; exact a1)
        have a3 := s3 id3 _ upd_same
        have hs := hs.trans s3
        simp -implicitDefEqProofs only [BB,seval,← decide_not,okind,vpre,vpure,intBin,intPre,strBin,strPre,popTo,argSlots,fldV,fldAV,subCells,idxVV,idxAAV,idxSV,sliceV,sliceSV,boundV,szIs,storeOp,storeS,setRowV,eff,extV,buildV,splice,eqSV,fitsL,eqCells,eqCell,minmaxV,capV,binBV,nilCheckV,bytesV,V.cells,V.stays,a1,a3,a4,O12_65,readInts_own,intsOf_int,intsOf_nil,readInts_encI _ hwl,cR_b,dec_true (List.all _ _)]
        refine And.intro (fun q1 => ?_) (fun q1 => RetV.pure hs (by rw [hok2]; simp [mx] at q1 ⊢; simp [q1]))
        refine And.intro (fun q2 => ?_) (fun q2 => RetV.pure hs (by rw [hok2]; simp only [mx,q2]; simp))
        refine effR_new fun id5 σ4 s4 a5 f5 => ?_
        have a1 := s4 _ _ a1
        have hs := hs.trans s4
        simp -implicitDefEqProofs only [BB,seval,← decide_not,okind,vpre,vpure,intBin,intPre,strBin,strPre,popTo,argSlots,fldV,fldAV,subCells,idxVV,idxAAV,idxSV,sliceV,sliceSV,boundV,szIs,storeOp,storeS,setRowV,eff,extV,buildV,splice,eqSV,fitsL,eqCells,eqCell,minmaxV,capV,binBV,nilCheckV,bytesV,V.cells,V.stays,a1,a5,O12_65,readInts_own,intsOf_int,intsOf_nil,readInts_encI _ hwl,cR_b,lenV_encI,dec_true (List.all _ _)]
        refine And.intro (fun q3 => ?_) (fun q3 => RetV.pure hs (by rw [hok2]; simp [mx] at q3 ⊢; simp [q3]))
        refine RetV.pure hs ?_
        rw [hok2]
        simp only [mx,q1,q2,q3,z,w1,w2,w3]
        simp
    · have hok3 : x.ok = (decide (x.st = Sty.zero) && (decide (x.line = 0) && decide (x.space = 0) && decide (x.words.length = 0) && isFrom x.w 1 mx && isFrom x.h 1 mx &&
          (decide (x.kind = 3) && decide (x.side = 0) || decide (x.kind = 4) && isFrom x.side 1 2))) := by
        by_cases hst : x.st = Sty.zero <;> simp [Nd.ok, k1, k2, hst]
      by_cases k3 : x.kind = 3
      · simp -implicitDefEqProofs only [BB,seval,← decide_not,okind,vpre,vpure,intBin,intPre,strBin,strPre,popTo,argSlots,fldV,fldAV,subCells,idxVV,idxAAV,idxSV,sliceV,sliceSV,boundV,szIs,storeOp,storeS,setRowV,eff,extV,buildV,splice,eqSV,fitsL,eqCells,eqCell,minmaxV,capV,binBV,nilCheckV,bytesV,V.cells,V.stays,a1,a3,upd_ne n13,isZero_eq,lenV_encI,k1,k2,k3,O12_64,cR_b,upd_same]
        repeat' (first
          | with_reducible refine And.intro (fun h => ?_) (fun h => ?_)
          | with_reducible refine RetV.pure hs ?_
          | (refine effR_new fun id4 σ3 s3 a4 f4 => ?_
             have a1 := s3 id1 _ (by rw [upd_ne n13]; exact a1)
             have a3 := s3 id3 _ upd_same
             simp -implicitDefEqProofs only [BB,seval,← decide_not,okind,vpre,vpure,intBin,intPre,strBin,strPre,popTo,argSlots,fldV,fldAV,subCells,idxVV,idxAAV,idxSV,sliceV,sliceSV,boundV,szIs,storeOp,storeS,setRowV,eff,extV,buildV,splice,eqSV,fitsL,eqCells,eqCell,minmaxV,capV,binBV,nilCheckV,bytesV,V.cells,V.stays,a1,a3,a4,O12_65,readInts_own,intsOf_int,intsOf_nil,isFrom,List.all_cons,List.all_nil,← Bool.decide_and]
             refine RetV.pure (hs.trans s3) ?_))
        all_goals (rw [V.bool.injEq, hok3, Bool.eq_iff_iff]; simp_all [isFrom, mx] <;> omega)
      · simp -implicitDefEqProofs only [BB,seval,← decide_not,okind,vpre,vpure,intBin,intPre,strBin,strPre,popTo,argSlots,fldV,fldAV,subCells,idxVV,idxAAV,idxSV,sliceV,sliceSV,boundV,szIs,storeOp,storeS,setRowV,eff,extV,buildV,splice,eqSV,fitsL,eqCells,eqCell,minmaxV,capV,binBV,nilCheckV,bytesV,V.cells,V.stays,a1,a3,upd_ne n13,isZero_eq,lenV_encI,k1,k2,k3,k4,O12_64,cR_b,upd_same]
        repeat' (first
          | with_reducible refine And.intro (fun h => ?_) (fun h => ?_)
          | with_reducible refine RetV.pure hs ?_)
        all_goals (rw [V.bool.injEq, hok3]; simp [k3, k4])
end Go.Vc
namespace Go.Vc
open Go.Proofs
def pops (i : Nat) : List Int → List Int
  | a :: b :: s => if a = i then pops i (b :: s) else a :: b :: s
  | s => s
def isS : List Nd → Nat → List Int → Bool
  | [], _, _ => true
  | x :: r, i, stk => match pops i stk with
    | [] => false
    | a :: s => if x.ok = true ∧ 1 ≤ x.size ∧ x.size ≤ a - i ∧ (x.kind = 1 ∨ x.size ≤ 1) then isS r (i + 1) ((i + x.size) :: a :: s) else false
def Asc (n : Nat) : Nat → List Int → Prop
  | lo, [] => lo = n
  | lo, a :: s => (lo : Int) ≤ a ∧ Asc n a.toNat s
def chainB (l : List Nd) : Nat → List Int → Bool
  | _, [] => true
  | lo, a :: s => rowsB l lo a.toNat && chainB l a.toNat s
theorem rowsB_nil (l : List Nd) (a : Nat) : rowsB l a a = true := by rw [rowsB, dif_neg (Nat.lt_irrefl a)]
theorem pops_law (l : List Nd) (n i : Nat) (hi : i < n) : ∀ stk, Asc n i stk → ∃ a s, pops i stk = a :: s ∧ (i : Int) < a ∧ Asc n i (a :: s) ∧ chainB l i (a :: s) = chainB l i stk
  | [], h => by simp only [Asc] at h; omega
  | [a], h => by
    have h' := h
    simp only [Asc] at h'
    exact ⟨a, [], rfl, by omega, h, rfl⟩
  | a :: b :: s, h => by
    by_cases ha : a = i
    · have h' := h.2
      rw [ha, Int.toNat_natCast] at h'
      obtain ⟨c, t, g1, g2, g3, g4⟩ := pops_law l n i hi (b :: s) h'
      refine ⟨c, t, by simp [pops, ha, g1], g2, g3, ?_⟩
      rw [g4]
      show _ = (rowsB l i a.toNat && chainB l a.toNat (b :: s))
      rw [ha, Int.toNat_natCast, rowsB_nil, Bool.true_and]
    · have h' := h.1
      exact ⟨a, b :: s, by simp [pops, ha], by omega, h, rfl⟩
theorem isS_law (l : List Nd) : ∀ (r : List Nd) (i : Nat) (stk : List Int), l.drop i = r → Asc l.length i stk → isS r i stk = (r.all Nd.ok && chainB l i stk)
  | [], i, stk, hr, hs => by
    have hi : l.length ≤ i := by simpa using hr
    have key : ∀ (stk : List Int) (lo : Nat), l.length ≤ lo → Asc l.length lo stk → chainB l lo stk = true := by
      intro stk
      induction stk with
      | nil => intro _ _ _; rfl
      | cons a s ih =>
        intro lo hlo h
        have h1 := h.1
        simp only [chainB]
        rw [ih a.toNat (by omega) h.2, rowsB, Bool.and_true]
        split
        · have : l[lo]? = none := by simp [hlo]
          rw [this]
          -- past the end: only an empty row
          have hend : ∀ (stk : List Int) (lo : Nat), Asc l.length lo stk → lo ≤ l.length := by
            intro stk
            induction stk with
            | nil => intro lo h; simp only [Asc] at h; omega
            | cons b t ih => intro lo h; have := h.1; have := ih _ h.2; omega
          have := hend _ _ h.2
          omega
        · rfl
    simp [isS, key stk i hi hs]
  | x :: r, i, stk, hr, hs => by
    have hi : i < l.length := by
      rcases Nat.lt_or_ge i l.length with h | h
      · exact h
      · rw [List.drop_eq_nil_of_le h] at hr; cases hr
    have hx : l[i]? = some x := by
      have : (l.drop i)[0]? = some x := by rw [hr]; rfl
      simpa using this
    have hr' : l.drop (i + 1) = r := by
      have : (l.drop i).drop 1 = r := by rw [hr]; rfl
      simpa using this
    obtain ⟨a, s, h1, h2, h3, h4⟩ := pops_law l l.length i hi stk hs
    rw [isS, h1]
    simp only
    rw [← h4]
    simp only [chainB,List.all_cons]
    have hrow : rowsB l i a.toNat = if _hx : 1 ≤ x.size ∧ x.size ≤ (a.toNat : Int) - i then
        (decide (x.kind = 1) || decide (x.size ≤ 1)) && rowsB l (i + 1) (i + x.size.toNat) && rowsB l (i + x.size.toNat) a.toNat else false := by
      rw [rowsB, dif_pos (by omega), hx]
    rw [hrow]
    have hat : (a.toNat : Int) = a := by omega
    rw [hat]
    by_cases hc : 1 ≤ x.size ∧ x.size ≤ a - i
    · rw [dif_pos hc]
      have e : (i + x.size).toNat = i + x.size.toNat := by omega
      have ih := isS_law l r (i + 1) ((i + x.size) :: a :: s) hr' ⟨by omega, by rw [e]; omega, h3.2⟩
      by_cases hk : x.ok = true ∧ (x.kind = 1 ∨ x.size ≤ 1)
      · rw [if_pos ⟨hk.1, hc.1, hc.2, hk.2⟩, ih]
        simp only [chainB,e,hk.1,Bool.true_and]
        have : (decide (x.kind = 1) || decide (x.size ≤ 1)) = true := by simpa using hk.2
        rw [this, Bool.true_and, Bool.and_assoc]
      · rw [if_neg (fun h => hk ⟨h.1, h.2.2.2⟩)]
        symm
        rw [Bool.eq_false_iff]
        intro h
        simp only [Bool.and_eq_true,Bool.or_eq_true,decide_eq_true_eq] at h
        exact hk ⟨h.1.1, h.2.1.1.1⟩
    · rw [dif_neg hc, if_neg (fun h => hc ⟨h.2.1, h.2.2.1⟩)]
      simp
theorem isS_isB (l : List Nd) : isS l 0 [(l.length : Int)] = isB l := by
  rw [isS_law l l 0 [(l.length : Int)] rfl ⟨by omega, by simp [Asc]⟩]
  simp [chainB, isB]
end Go.Vc
namespace Go.Vc
open Go.Proofs
def o14 (f : FuncId) (args : List V) : Option V := if f = 49 then (match args with
  | [.agg [.int .i64 a0, .int .i64 a1, .int .i64 a2, .int .i64 a3, .int .i64 a4, .int .i64 a5, .int .i64 a6, .int .i64 a7, .int .i64 a8, .int .i64 a9, .int .i64 a10, .int .i64 a11, .int .i64 a12, .int .i64 a13, .int .i64 a14, .int .i64 a15, .sl 1 rows, .int .i64 a17, .int .i64 a18, .int .i64 a19]] =>
    (intsOf rows).bind fun ws => if ws.length ≤ 200000000000000 then some (.bool (Nd.ok ⟨a0, a1, ⟨a2, a3, a4, a5, a6, a7, a8, a9, a10, a11, a12, a13⟩, a14, a15, ws, a17, a18, a19⟩)) else none
  | _ => none) else none
def O14 : Orc Tryd.prog where
  get f args _ := o14 f args
  ok f args σ v h := by
    unfold o14 at h
    split at h
    · rename_i hf
      subst hf
      split at h
      · rw [Option.bind_eq_some_iff] at h
        obtain ⟨ws, h1, h2⟩ := h
        split at h2
        · rename_i hw
          simp only [Option.some.injEq] at h2
          subst h2
          rw [intsOf_eq h1]
          exact fits_c ⟨_, _, ⟨_, _, _, _, _, _, _, _, _, _, _, _⟩, _, _, ws, _, _, _⟩ hw σ
        · cases h2
      · cases h
    · cases h
theorem O14_35 {x : Nd} (hw : x.words.length ≤ 200000000000000) (σ : Store) : O14.get 49 [.agg [.int .i64 x.kind, .int .i64 x.size, .int .i64 x.st.top, .int .i64 x.st.bottom, .int .i64 x.st.padTop, .int .i64 x.st.padBottom, .int .i64 x.st.inset, .int .i64 x.st.orphans, .int .i64 x.st.widows, .int .i64 x.st.head, .int .i64 x.st.before, .int .i64 x.st.after, .int .i64 x.st.inside, .int .i64 x.st.clear, .int .i64 x.line, .int .i64 x.space, encI x.words, .int .i64 x.side, .int .i64 x.w, .int .i64 x.h]] σ =
    some (.bool x.ok) := by
  show ((intsOf (x.words.map vI)).bind fun ws => if ws.length ≤ 200000000000000 then some (V.bool (Nd.ok ⟨x.kind, x.size, ⟨x.st.top, x.st.bottom, x.st.padTop, x.st.padBottom, x.st.inset, x.st.orphans, x.st.widows, x.st.head, x.st.before, x.st.after, x.st.inside, x.st.clear⟩, x.line, x.space, ws, x.side, x.w, x.h⟩)) else none) = _
  rw [intsOf_map, Option.bind_some, if_pos hw]
theorem ends_top {rows : List V} {k : Nat} {a : Int} {s : List Int} (hk : k = (a :: s).length) (ht : rows.take k = (a :: s).reverse.map vI) : rows[k - 1]? = some (.int .i64 a) ∧ rows.take (k - 1) = s.reverse.map vI := by
  simp only [List.length_cons] at hk
  have h1 : (rows.take k)[k - 1]? = rows[k - 1]? := by rw [List.getElem?_take, if_pos (by omega)]
  constructor
  · rw [← h1, ht, hk]
    simp
  · have h2 : rows.take (k - 1) = (rows.take k).take (k - 1) := by rw [List.take_take]; congr 1; omega
    rw [h2, ht, hk]
    simp
theorem Asc.le {n : Nat} : ∀ {stk : List Int} {lo : Nat}, Asc n lo stk → lo ≤ n
  | [], lo, h => by simp only [Asc] at h; omega
  | a :: s, lo, h => by have h1 := h.1; have h2 := Asc.le h.2; omega
set_option maxRecDepth 100000 in
theorem isv_c (l : List Nd) (hl : Fine l) : PFun Tryd.prog 24 [encNs l] (.bool (isB l)) := fun σ => by
  have hl0 := hl
  obtain ⟨hl1, hl2⟩ := hl
  refine Contract.of_runs Tryd.func24 e24 k24 (by simp [c24]) ?_
  refine Runs.mix 6 ?_
  (refine Runs.of_step Orc.nothing 300 ?_; simp -implicitDefEqProofs only [BB,seval,effR_some,effD_some,← decide_not,okind,vpre,vpure,intBin,intPre,strBin,strPre,popTo,argSlots,fldV,fldAV,subCells,idxVV,idxAAV,idxSV,sliceV,sliceSV,boundV,szIs,storeOp,storeS,setRowV,eff,extV,buildV,splice,eqSV,fitsL,eqCells,eqCell,minmaxV,capV,binBV,nilCheckV,bytesV,V.cells,V.stays,Orc.nothing,c24,lenV_encNs])
  intro e0 he0
  refine Runs.loop (fun m st => ∃ i stk e k rows, i ≤ l.length ∧ m = l.length - i ∧ isB l = isS (l.drop i) i stk ∧ Asc l.length i stk ∧ stk ≠ [] ∧ stk.length ≤ i + 1 ∧ SubStore σ st.σ ∧ st.σ e = some ⟨3, 1, rows⟩ ∧ σ e = none ∧ k = stk.length ∧ k ≤ rows.length ∧ rows.take k = stk.reverse.map vI ∧
    st.s 3 = .own e 0 k ∧ st.s 9 = encNs l ∧ st.s 10 = vI l.length ∧ st.s 11 = vI i) l.length ?_ ?_
  · refine ⟨0, [(l.length : Int)], e0, 1, [vI l.length], by omega, by omega, by rw [← isS_isB]; rfl, ⟨by omega, by simp [Asc]⟩, by simp, by simp, (SubStore.refl σ).upd he0, upd_same, he0, rfl, by simp, rfl, rfl, rfl, rfl, rfl⟩
  · rintro m ⟨s, σ'⟩ ⟨i, stk, e, k, rows, hi, rfl, hB, hasc, hne, hsl, hsub, hrow, hnew, hk, hkr, htk, h3, h9, h10, h11⟩
    simp only at hsub hrow h3 h9 h10 h11
    refine Runs.mix 6 ?_
    (refine Runs.of_step Orc.nothing 300 ?_; simp -implicitDefEqProofs only [BB,seval,effR_some,effD_some,← decide_not,okind,vpre,vpure,intBin,intPre,strBin,strPre,popTo,argSlots,fldV,fldAV,subCells,idxVV,idxAAV,idxSV,sliceV,sliceSV,boundV,szIs,storeOp,storeS,setRowV,eff,extV,buildV,splice,eqSV,fitsL,eqCells,eqCell,minmaxV,capV,binBV,nilCheckV,bytesV,V.cells,V.stays,Orc.nothing,h3,h9,h10,h11])
    refine And.intro (fun hlt => ?_) (fun hge => ?_)
    · have hlt' : i < l.length := by simp at hlt; omega
      have hd : l.drop i = l[i] :: l.drop (i + 1) := List.drop_eq_getElem_cons hlt'
      have hxw : l[i].words.length ≤ 200000000000000 := hl2 _ (List.getElem_mem hlt')
      rw [hd] at hB
      generalize hxe : l[i] = x at *
      simp -implicitDefEqProofs only [BB,seval,effR_some,effD_some,← decide_not,okind,vpre,vpure,intBin,intPre,strBin,strPre,popTo,argSlots,fldV,fldAV,subCells,idxVV,idxAAV,idxSV,sliceV,sliceSV,boundV,szIs,storeOp,storeS,setRowV,eff,extV,buildV,splice,eqSV,fitsL,eqCells,eqCell,minmaxV,capV,binBV,nilCheckV,bytesV,V.cells,V.stays,idxAV_encNs hlt',hxe,loadV_rp_node,h3,h9,h10,h11,Nd.cells]
      intro id5 hid5
      replace hid5 : σ' id5 = none := hid5
      have n5e : e ≠ id5 := by rintro rfl; rw [hrow] at hid5; cases hid5
      have n5n : σ id5 = none := hsub.none hid5
      refine Runs.loop (fun m st => ∃ stk' k', m = stk'.length ∧ pops i stk = pops i stk' ∧ Asc l.length i stk' ∧ stk' ≠ [] ∧ stk'.length ≤ stk.length ∧ st.σ = upd σ' id5 ⟨37, 20, [.agg x.cells]⟩ ∧ k' = stk'.length ∧ k' ≤ rows.length ∧ rows.take k' = stk'.reverse.map vI ∧
        st.s 3 = .own e 0 k' ∧ st.s 4 = vI i ∧ st.s 5 = .ptr id5 0 0 ∧ st.s 9 = encNs l ∧ st.s 10 = vI l.length ∧ st.s 11 = vI i) stk.length ?_ ?_
      · exact ⟨stk, k, rfl, rfl, hasc, hne, Nat.le_refl _, rfl, hk, hkr, htk, h3, rfl, rfl, h9, h10, h11⟩
      · rintro m ⟨s, σ''⟩ ⟨stk', k', rfl, hpop, hasc', hne', hsl', hσ, hk', hkr', htk', h3, h4, h5, h9, h10, h11⟩
        simp only at hσ h3 h4 h5 h9 h10 h11
        subst hσ
        obtain ⟨a, tl, rfl⟩ := List.exists_cons_of_ne_nil hne'
        obtain ⟨htop, htk2⟩ := ends_top hk' htk'
        have hkpos : 1 ≤ k' := by rw [hk']; simp
        have g0 : (k' : Int) - 1 < k' := by omega
        have g1 : (0 : Int) ≤ (k' : Int) - 1 := by omega
        have g2 : (k' : Int) - 1 ≤ k' := by omega
        have g3 : ((k' : Int) - 1).toNat = k' - 1 := by omega
        have hrng : inR .i64 ((k' : Int) - 1) := inR_i64 (by omega) (by omega)
        refine Runs.mix 6 ?_
        (refine Runs.of_step O14 300 ?_; simp -implicitDefEqProofs only [BB,seval,effR_some,effD_some,← decide_not,okind,vpre,vpure,intBin,intPre,strBin,strPre,popTo,argSlots,fldV,fldAV,subCells,idxVV,idxAAV,idxSV,sliceV,sliceSV,boundV,szIs,storeOp,storeS,setRowV,eff,extV,buildV,splice,eqSV,fitsL,eqCells,eqCell,minmaxV,capV,binBV,nilCheckV,bytesV,V.cells,V.stays,h3,h4,h5,h9,h10,h11,upd_ne n5e,hrow,g0,g1,g2,g3,Int.le_refl,Int.toNat_zero,Nat.sub_zero,htop,cR_b,Nd.cells,O14_35 hxw,dec_true (Nd.ok x)])
        refine And.intro (fun h1 => ⟨hrng, And.intro (fun h2 => ?_) (fun h2 => ?_)⟩) (fun h1 => ?_)
        · obtain ⟨b, tl', rfl⟩ : ∃ b tl', tl = b :: tl' := by
            cases tl with
            | nil => simp at hk'; omega
            | cons b tl' => exact ⟨b, tl', rfl⟩
          have hp2 : pops i (a :: b :: tl') = pops i (b :: tl') := by simp [pops, h2]
          have ha2 := hasc'.2
          rw [h2, Int.toNat_natCast] at ha2
          refine ⟨hrng, _, ?_, b :: tl', k' - 1, rfl, by rw [hpop, hp2], ha2, by simp, ?_, ?_, by omega, htk2, rfl⟩
          · simp
          · simp only [List.length_cons] at hsl' ⊢; omega
          · simp only [List.length_cons] at hk' ⊢; omega
        all_goals
          have hps : pops i (a :: tl) = a :: tl := by
            cases tl with
            | nil => rfl
            | cons b tl' =>
              have : a ≠ i := by first
                | simpa using h2
                | (exfalso; simp at hk' h1; omega)
              simp [pops, this]
          obtain ⟨c, t, p1, p2, p3, p4⟩ := pops_law l l.length i hlt' (a :: tl) hasc'
          rw [hps, List.cons.injEq] at p1
          obtain ⟨rfl, rfl⟩ := p1
          have hIs : isB l = if x.ok = true ∧ 1 ≤ x.size ∧ x.size ≤ a - i ∧ (x.kind = 1 ∨ x.size ≤ 1) then isS (l.drop (i + 1)) (i + 1) ((i + x.size) :: a :: tl) else false := by
            rw [hB, isS, hpop, hps]
          have hale := Asc.le p3.2
          have hlenk : (rows.take k').length = k' := by simp; omega
          have hstk : k' ≤ i + 1 := by rw [hk']; omega
          have happ : x.ok = true ∧ 1 ≤ x.size ∧ x.size ≤ a - i ∧ (x.kind = 1 ∨ x.size ≤ 1) → ∀ (X Y : Ob) (id id1 : Nat), upd σ' id5 X id = none → upd (upd σ' id5 X) id Y id1 = none →
              isB l = isS (l.drop (i + 1)) (i + 1) ((i + x.size) :: a :: tl) ∧ Asc l.length (i + 1) ((i + x.size) :: a :: tl) ∧ SubStore σ (upd (del (upd (upd σ' id5 X) id Y) e) id1 ⟨3, 1, rows.take k' ++ [.int .i64 (i + x.size)]⟩) ∧ σ id1 = none ∧
              (rows.take k' ++ [V.int .i64 (i + x.size)]).take (k' + 1) = ((i + x.size) :: a :: tl).reverse.map vI := by
            intro hc X Y id id1 hid hid1
            rw [upd_none] at hid
            rw [upd_none, upd_none] at hid1
            rw [if_pos hc] at hIs
            refine ⟨hIs, ⟨by omega, ?_, p3.2⟩, ?_, hsub.none hid1.2.2, ?_⟩
            · have : (i + x.size).toNat = i + x.size.toNat := by omega
              omega
            · exact SubStore.updK (SubStore.delK ((hsub.updK n5n).updK (hsub.none hid.2)) hnew) (hsub.none hid1.2.2)
            · rw [List.take_of_length_le (by simp; omega), htk']
              simp
          refine And.intro (fun q1 => And.intro (fun q2 => ⟨hrng, inR_i64 (by omega) (by omega), And.intro (fun q3 => And.intro (fun q4 => And.intro (fun q5 => ?_) (fun q5 => ?_)) (fun q4 => ?_)) (fun q3 => ?_)⟩) (fun q2 => ?_)) (fun q1 => ?_)
          · refine RetV.pure (hsub.upd hid5) ?_
            rw [hIs, if_neg]
            rintro ⟨c1, c2, c3, c4⟩
            omega
          · refine ⟨inR_i64 (by omega) (by omega), ?_⟩
            intro id hid
            have hid' := (upd_none.1 hid).2
            have nie : e ≠ id := by rintro rfl; rw [hrow] at hid'; cases hid'
            have hd1 : ∀ σ, σ e = some ⟨3, 1, rows⟩ → dstRows σ 3 1 (.own e 0 k') = some (rows.take k', some e) := by
              intro σ hσ
              simp only [dstRows,hσ]
              rw [if_pos ⟨trivial, trivial, trivial, hkr'⟩]
            have hs1 : ∀ σ, σ id = some ⟨3, 1, [.int .i64 (i + x.size)]⟩ → srcRows σ 1 (.own id 0 1) = some [.int .i64 (i + x.size)] := by
              intro σ hσ
              simp only [srcRows,hσ]
              rw [if_pos (by simp)]
              simp
            have hb : (k' + 1) * 9 ≤ 140737488355328 := by omega
            simp -implicitDefEqProofs only [BB,seval,effR_some,effD_some,← decide_not,okind,vpre,vpure,intBin,intPre,strBin,strPre,popTo,argSlots,fldV,fldAV,subCells,idxVV,idxAAV,idxSV,sliceV,sliceSV,boundV,szIs,storeOp,storeS,setRowV,eff,extV,buildV,splice,eqSV,fitsL,eqCells,eqCell,minmaxV,capV,binBV,nilCheckV,bytesV,V.cells,V.stays,hd1,hs1,upd_ne n5e,upd_ne nie,hrow,hlenk,hb,delO,h3,h4,h5,h9,h10,h11]
            intro id1 hid1
            obtain ⟨z1, z2, z3, z4, z5⟩ := happ ⟨by simpa using q1, by omega, by omega, by first | (left; simpa using q4) | (right; simp at q5; omega)⟩ _ _ id id1 hid hid1
            refine ⟨inR_i64 (by omega) (by omega), _, ?_, i + 1, _, id1, k' + 1, _, by omega, rfl, z1, z2, by simp, ?_, z3, upd_same, z4, ?_, ?_, z5, rfl, ?_⟩
            · omega
            · simp only [List.length_cons] at hk' hsl' ⊢; omega
            · simp only [List.length_cons] at hk' ⊢; omega
            · simp; omega
            · simp
          · refine ⟨inR_i64 (by omega) (by omega), ?_⟩
            intro id hid
            have hid' := (upd_none.1 hid).2
            have nie : e ≠ id := by rintro rfl; rw [hrow] at hid'; cases hid'
            have hd1 : ∀ σ, σ e = some ⟨3, 1, rows⟩ → dstRows σ 3 1 (.own e 0 k') = some (rows.take k', some e) := by
              intro σ hσ
              simp only [dstRows,hσ]
              rw [if_pos ⟨trivial, trivial, trivial, hkr'⟩]
            have hs1 : ∀ σ, σ id = some ⟨3, 1, [.int .i64 (i + x.size)]⟩ → srcRows σ 1 (.own id 0 1) = some [.int .i64 (i + x.size)] := by
              intro σ hσ
              simp only [srcRows,hσ]
              rw [if_pos (by simp)]
              simp
            have hb : (k' + 1) * 9 ≤ 140737488355328 := by omega
            simp -implicitDefEqProofs only [BB,seval,effR_some,effD_some,← decide_not,okind,vpre,vpure,intBin,intPre,strBin,strPre,popTo,argSlots,fldV,fldAV,subCells,idxVV,idxAAV,idxSV,sliceV,sliceSV,boundV,szIs,storeOp,storeS,setRowV,eff,extV,buildV,splice,eqSV,fitsL,eqCells,eqCell,minmaxV,capV,binBV,nilCheckV,bytesV,V.cells,V.stays,hd1,hs1,upd_ne n5e,upd_ne nie,hrow,hlenk,hb,delO,h3,h4,h5,h9,h10,h11]
            intro id1 hid1
            obtain ⟨z1, z2, z3, z4, z5⟩ := happ ⟨by simpa using q1, by omega, by omega, by first | (left; simpa using q4) | (right; simp at q5; omega)⟩ _ _ id id1 hid hid1
            refine ⟨inR_i64 (by omega) (by omega), _, ?_, i + 1, _, id1, k' + 1, _, by omega, rfl, z1, z2, by simp, ?_, z3, upd_same, z4, ?_, ?_, z5, rfl, ?_⟩
            · omega
            · simp only [List.length_cons] at hk' hsl' ⊢; omega
            · simp only [List.length_cons] at hk' ⊢; omega
            · simp; omega
            · simp
          · refine RetV.pure (hsub.upd hid5) ?_
            rw [hIs, if_neg]
            rintro ⟨c1, c2, c3, c4⟩
            omega
          · refine RetV.pure (hsub.upd hid5) ?_
            rw [hIs, if_neg]
            rintro ⟨c1, c2, c3, c4⟩
            omega
          · refine RetV.pure (hsub.upd hid5) ?_
            rw [hIs, if_neg]
            rintro ⟨c1, c2, c3, c4⟩
            exact q1 (by simp [c1])
    · have hi' : i = l.length := by simp at hge; omega
      refine RetV.pure hsub ?_
      rw [hB, hi', List.drop_length]; rfl
end Go.Vc
namespace Go.Vc
open Go.Proofs
theorem Reads.nils (σ : Store) : Reads σ 1 false .nils [] := ⟨rfl, fun i v h => by simp at h⟩
end Go.Vc
namespace Go.Vc
open Go.Proofs
theorem effR_app {P : Program} {n : Nat} {Q : St → Prop} {k : List It} {O : Orc P} {f : Nat} {d : Option Nat} {l : List VIns} {v : Nat → V} {ob : Ob} {s : Nat → V} {σ : Store} {e : Nat}
    (h : ∀ id σ', SubStore (del σ e) σ' → σ' id = some ob → σ id = none → step P O n f (.r (.ops l :: k)) ⟨putO s d (v id), σ'⟩ Q) :
    effR P O n f l k d ⟨s, σ⟩ Q (some fun id => (v id, Vc.upd (del σ e) id ob)) := by
  rw [effR_some]
  refine fun id hid => h id _ ((SubStore.refl _).upd ?_) upd_same hid
  by_cases e' : id = e
  · simp [del, e']
  · rw [del_ne e']; exact hid
def EndsV (K σ : Store) (v : V) (ends : List Int) (B : Nat) : Prop :=
  (v = .nils ∧ ends = []) ∨ ∃ (e k : Nat) (full : List Int), v = .own e 0 k ∧ σ e = some ⟨3, 1, full.map vI⟩ ∧ K e = none ∧ k ≤ full.length ∧ full.length ≤ B ∧ full.take k = ends
theorem EndsV.new {K σ σ' : Store} {v : V} {ends : List Int} {B id : Nat} {o : Ob} (h : EndsV K σ v ends B) (hs : SubStore σ σ') (hid : σ id = none) : EndsV (upd K id o) σ' v ends B := by
  rcases h with h | ⟨e, k, full, h0, h1, h2, h3⟩
  · exact .inl h
  · exact .inr ⟨e, k, full, h0, hs _ _ h1, by rw [upd_ne (ne_new h1 hid)]; exact h2, h3⟩
theorem EndsV.less {K K' σ : Store} {v : V} {ends : List Int} {B : Nat} (h : EndsV K' σ v ends B) (hs : SubStore K K') : EndsV K σ v ends B := by
  rcases h with h | ⟨e, k, full, h0, h1, h2, h3⟩
  · exact .inl h
  · exact .inr ⟨e, k, full, h0, h1, hs.none h2, h3⟩
end Go.Vc
namespace Go.Vc
open Go.Proofs
theorem loadV_rp_encI (σ : Store) (l : List Int) : loadV σ false 1 (.rp (encI l)) = some (encI l) := rfl
set_option maxRecDepth 100000 in
theorem own_o (l : List Nd) (hl : l.length ≤ 10000 ∧ ∀ x ∈ l, x.words.length ≤ 1000000000) (σ : Store) : Contract Tryd.prog 20 [encNs l] σ fun r σ' => SubStore σ σ' ∧ OutV σ σ' 37 20 r (l.map encN) := by
  obtain ⟨hl1, hl2⟩ := hl
  refine Contract.of_runs Tryd.func20 e20 k20 (by simp [c20]) ?_
  refine Runs.mix 6 ?_
  (refine Runs.of_step Orc.nothing 300 ?_; simp -implicitDefEqProofs only [BB,seval,effR_some,effD_some,← decide_not,okind,vpre,vpure,intBin,intPre,strBin,strPre,popTo,argSlots,fldV,fldAV,subCells,idxVV,idxAAV,idxSV,sliceV,sliceSV,boundV,szIs,storeOp,storeS,setRowV,eff,extV,buildV,splice,eqSV,fitsL,eqCells,eqCell,minmaxV,capV,binBV,nilCheckV,bytesV,V.cells,V.stays,Orc.nothing,c20])
  refine Runs.loop (fun m st => ∃ i : Nat, i ≤ l.length ∧ m = l.length - i ∧ SubStore σ st.σ ∧ OutV σ st.σ 37 20 (st.s 3) ((l.take i).map encN) ∧ st.s 0 = encNs l ∧ st.s 4 = vI i) l.length ?_ ?_
  · exact ⟨0, by omega, by omega, SubStore.refl σ, .inl ⟨rfl, rfl⟩, rfl, rfl⟩
  · rintro m ⟨s, σ'⟩ ⟨i, hi, rfl, hsub, hout, h0, h4⟩
    simp only at hsub hout h0 h4
    rcases hout with ⟨h3, hr0⟩ | ⟨id, h3, hrow, hnew⟩
    · refine Runs.mix 6 ?_
      (refine Runs.of_step Orc.nothing 30 ?_; simp -implicitDefEqProofs only [BB,seval,← decide_not,okind,vpre,vpure,intBin,intPre,strBin,strPre,popTo,argSlots,fldV,fldAV,subCells,idxVV,idxAAV,idxSV,sliceV,sliceSV,boundV,szIs,storeOp,storeS,setRowV,eff,extV,buildV,splice,eqSV,fitsL,eqCells,eqCell,minmaxV,capV,binBV,nilCheckV,bytesV,V.cells,V.stays,s_zero,Orc.nothing,h0,h3,h4,lenV_encNs])
      refine And.intro (fun hlt => ?_) (fun hge => ?_)
      · have hlt' : i < l.length := by omega
        have hxw : l[i].words.length ≤ 1000000000 := hl2 _ (List.getElem_mem hlt')
        have htk : (l.take (i + 1)).map encN = (l.take i).map encN ++ [encN l[i]] := by rw [List.take_succ_eq_append_getElem hlt', List.map_append]; rfl
        generalize hxe : l[i] = x at *
        simp -implicitDefEqProofs only [BB,seval,← decide_not,okind,vpre,vpure,intBin,intPre,strBin,strPre,popTo,argSlots,fldV,fldAV,subCells,idxVV,idxAAV,idxSV,sliceV,sliceSV,boundV,szIs,storeOp,storeS,setRowV,eff,extV,buildV,splice,eqSV,fitsL,eqCells,eqCell,minmaxV,capV,binBV,nilCheckV,bytesV,V.cells,V.stays,idxAV_encNs hlt',hxe,Nd.cells,h0,h3,h4,s_zero]
        refine effR_new fun id5 σ1 s1 a5 f5 => ?_
        simp -implicitDefEqProofs only [BB,seval,← decide_not,okind,vpre,vpure,intBin,intPre,strBin,strPre,popTo,argSlots,fldV,fldAV,subCells,idxVV,idxAAV,idxSV,sliceV,sliceSV,boundV,szIs,storeOp,storeS,setRowV,eff,extV,buildV,splice,eqSV,fitsL,eqCells,eqCell,minmaxV,capV,binBV,nilCheckV,bytesV,V.cells,V.stays,a5,h0,h3,h4,s_zero]
        refine effR_new fun id16 σ2 s2 a16 f16 => ?_
        have a5 := s2 id5 _ upd_same
        have n5 : id5 ≠ id16 := by rintro rfl; rw [upd_same] at f16; cases f16
        have hs : srcRows σ2 1 (encI x.words) = some (x.words.map vI) := by simp [encI, srcRows]
        have hd : dstRows σ2 3 1 (.own id16 0 0) = some ([], some id16) := by
          simp only [dstRows,a16]
          rw [if_pos (by simp)]
          simp
        have hb : x.words.length * 9 ≤ 140737488355328 := by omega
        simp -implicitDefEqProofs only [BB,seval,← decide_not,okind,vpre,vpure,intBin,intPre,strBin,strPre,popTo,argSlots,fldV,fldAV,subCells,idxVV,idxAAV,idxSV,sliceV,sliceSV,boundV,szIs,storeOp,storeS,setRowV,eff,extV,buildV,splice,eqSV,fitsL,eqCells,eqCell,minmaxV,capV,binBV,nilCheckV,bytesV,V.cells,V.stays,idxAV_encNs hlt',hxe,loadV_rp_encI,Nd.cells,hs,hd,hb,delO,List.length_map,Nat.zero_add,h0,h3,h4,s_zero]
        refine effR_app fun id22 σ3 s3 a22 f22 => ?_
        have a5 := s3 id5 _ (by rw [del_ne n5]; exact a5)
        have n522 : id5 ≠ id22 := by rintro rfl; rw [s2 id5 _ upd_same] at f22; cases f22
        simp -implicitDefEqProofs only [BB,seval,← decide_not,okind,vpre,vpure,intBin,intPre,strBin,strPre,popTo,argSlots,fldV,fldAV,subCells,idxVV,idxAAV,idxSV,sliceV,sliceSV,boundV,szIs,storeOp,storeS,setRowV,eff,extV,buildV,splice,eqSV,fitsL,eqCells,eqCell,minmaxV,capV,binBV,nilCheckV,bytesV,V.cells,V.stays,s_zero]
        refine Runs.freeze [0, 3, 4, 5] 22 id22 0 x.words.length (SubStore.of_del σ3 id22) a22 (by simp [del]) rfl (by simp) ?_
        have a5' : del σ3 id22 id5 = _ := (del_ne n522).trans a5
        have hfold : List.take x.words.length (List.map vI x.words) = List.map vI x.words := List.take_of_length_le (by simp)
        have hs3 : SubStore σ (del σ3 id22) := (((((hsub.trans s1).updK (hsub.none f5)).trans s2).delK ((hsub.trans s1).updK (hsub.none f5) |>.none f16)).trans s3).delK (((hsub.trans s1).updK (hsub.none f5)).trans s2 |>.none f22)
        (refine Runs.of_step Orc.nothing 300 ?_; simp -implicitDefEqProofs only [BB,seval,← decide_not,okind,vpre,vpure,intBin,intPre,strBin,strPre,popTo,argSlots,fldV,fldAV,subCells,idxVV,idxAAV,idxSV,sliceV,sliceSV,boundV,szIs,storeOp,storeS,setRowV,eff,extV,buildV,splice,eqSV,fitsL,eqCells,eqCell,minmaxV,capV,binBV,nilCheckV,bytesV,V.cells,V.stays,Orc.nothing,a5',hfold,h0,h3,h4])
        refine effR_new fun id26 σ4 s4 a26 f26 => ?_
        have hs2 : srcRows σ4 20 (.own id26 0 1) = some [encN x] := by
          simp only [srcRows,a26]
          rw [if_pos (by simp)]
          simp [encN, Nd.cells, encI]
        have hs4 := (hs3.updK (hsub.none f5)).trans s4
        have hd2 : dstRows σ4 37 20 .nils = some ([], none) := rfl
        simp -implicitDefEqProofs only [BB,seval,← decide_not,okind,vpre,vpure,intBin,intPre,strBin,strPre,popTo,argSlots,fldV,fldAV,subCells,idxVV,idxAAV,idxSV,sliceV,sliceSV,boundV,szIs,storeOp,storeS,setRowV,eff,extV,buildV,splice,eqSV,fitsL,eqCells,eqCell,minmaxV,capV,binBV,nilCheckV,bytesV,V.cells,V.stays,hs2,hd2,delO,Nat.reduceLeDiff,h0,h3,h4]
        refine effR_new fun id27 σ5 s5 a27 f27 => ?_
        simp -implicitDefEqProofs only [BB,seval,← decide_not,okind,vpre,vpure,intBin,intPre,strBin,strPre,popTo,argSlots,fldV,fldAV,subCells,idxVV,idxAAV,idxSV,sliceV,sliceSV,boundV,szIs,storeOp,storeS,setRowV,eff,extV,buildV,splice,eqSV,fitsL,eqCells,eqCell,minmaxV,capV,binBV,nilCheckV,bytesV,V.cells,V.stays,h0,h3,h4]
        refine ⟨inR_i64 (by omega) (by omega), _, ?_, i + 1, by omega, rfl, hs4.trans s5, .inr ⟨id27, ?_, ?_, hs4.none f27⟩, by simp⟩
        · omega
        · rw [htk, hr0]; rfl
        · rw [htk, hr0, a27]; rfl
      · have hie : i = l.length := by omega
        subst hie
        rw [List.take_length] at hr0
        exact ⟨_, _, SubStore.refl _, Wk.refl (SubStore.refl _) _, hsub, .inl ⟨rfl, hr0⟩⟩
    · have hln : (l.take i).length = i := by simp; omega
      have hln2 : ((l.take i).map encN).length = i := by simpa using hln
      rw [hln2] at h3
      refine Runs.mix 6 ?_
      (refine Runs.of_step Orc.nothing 30 ?_; simp -implicitDefEqProofs only [BB,seval,← decide_not,okind,vpre,vpure,intBin,intPre,strBin,strPre,popTo,argSlots,fldV,fldAV,subCells,idxVV,idxAAV,idxSV,sliceV,sliceSV,boundV,szIs,storeOp,storeS,setRowV,eff,extV,buildV,splice,eqSV,fitsL,eqCells,eqCell,minmaxV,capV,binBV,nilCheckV,bytesV,V.cells,V.stays,s_zero,Orc.nothing,h0,h3,h4,lenV_encNs])
      refine And.intro (fun hlt => ?_) (fun hge => ?_)
      · have hlt' : i < l.length := by omega
        have hxw : l[i].words.length ≤ 1000000000 := hl2 _ (List.getElem_mem hlt')
        have htk : (l.take (i + 1)).map encN = (l.take i).map encN ++ [encN l[i]] := by rw [List.take_succ_eq_append_getElem hlt', List.map_append]; rfl
        have hidlen : i ≤ 1000000000 := by omega
        generalize hxe : l[i] = x at *
        simp -implicitDefEqProofs only [BB,seval,← decide_not,okind,vpre,vpure,intBin,intPre,strBin,strPre,popTo,argSlots,fldV,fldAV,subCells,idxVV,idxAAV,idxSV,sliceV,sliceSV,boundV,szIs,storeOp,storeS,setRowV,eff,extV,buildV,splice,eqSV,fitsL,eqCells,eqCell,minmaxV,capV,binBV,nilCheckV,bytesV,V.cells,V.stays,idxAV_encNs hlt',hxe,Nd.cells,h0,h3,h4,s_zero]
        refine effR_new fun id5 σ1 s1 a5 f5 => ?_
        simp -implicitDefEqProofs only [BB,seval,← decide_not,okind,vpre,vpure,intBin,intPre,strBin,strPre,popTo,argSlots,fldV,fldAV,subCells,idxVV,idxAAV,idxSV,sliceV,sliceSV,boundV,szIs,storeOp,storeS,setRowV,eff,extV,buildV,splice,eqSV,fitsL,eqCells,eqCell,minmaxV,capV,binBV,nilCheckV,bytesV,V.cells,V.stays,a5,h0,h3,h4,s_zero]
        refine effR_new fun id16 σ2 s2 a16 f16 => ?_
        have a5 := s2 id5 _ upd_same
        have n5 : id5 ≠ id16 := by rintro rfl; rw [upd_same] at f16; cases f16
        have hs : srcRows σ2 1 (encI x.words) = some (x.words.map vI) := by simp [encI, srcRows]
        have hd : dstRows σ2 3 1 (.own id16 0 0) = some ([], some id16) := by
          simp only [dstRows,a16]
          rw [if_pos (by simp)]
          simp
        have hb : x.words.length * 9 ≤ 140737488355328 := by omega
        simp -implicitDefEqProofs only [BB,seval,← decide_not,okind,vpre,vpure,intBin,intPre,strBin,strPre,popTo,argSlots,fldV,fldAV,subCells,idxVV,idxAAV,idxSV,sliceV,sliceSV,boundV,szIs,storeOp,storeS,setRowV,eff,extV,buildV,splice,eqSV,fitsL,eqCells,eqCell,minmaxV,capV,binBV,nilCheckV,bytesV,V.cells,V.stays,idxAV_encNs hlt',hxe,loadV_rp_encI,Nd.cells,hs,hd,hb,delO,List.length_map,Nat.zero_add,h0,h3,h4,s_zero]
        refine effR_app fun id22 σ3 s3 a22 f22 => ?_
        have a5 := s3 id5 _ (by rw [del_ne n5]; exact a5)
        have n522 : id5 ≠ id22 := by rintro rfl; rw [s2 id5 _ upd_same] at f22; cases f22
        simp -implicitDefEqProofs only [BB,seval,← decide_not,okind,vpre,vpure,intBin,intPre,strBin,strPre,popTo,argSlots,fldV,fldAV,subCells,idxVV,idxAAV,idxSV,sliceV,sliceSV,boundV,szIs,storeOp,storeS,setRowV,eff,extV,buildV,splice,eqSV,fitsL,eqCells,eqCell,minmaxV,capV,binBV,nilCheckV,bytesV,V.cells,V.stays,s_zero]
        refine Runs.freeze [0, 3, 4, 5] 22 id22 0 x.words.length (SubStore.of_del σ3 id22) a22 (by simp [del]) rfl (by simp) ?_
        have a5' : del σ3 id22 id5 = _ := (del_ne n522).trans a5
        have hfold : List.take x.words.length (List.map vI x.words) = List.map vI x.words := List.take_of_length_le (by simp)
        have hs3 : SubStore σ (del σ3 id22) := (((((hsub.trans s1).updK (hsub.none f5)).trans s2).delK ((hsub.trans s1).updK (hsub.none f5) |>.none f16)).trans s3).delK (((hsub.trans s1).updK (hsub.none f5)).trans s2 |>.none f22)
        (refine Runs.of_step Orc.nothing 300 ?_; simp -implicitDefEqProofs only [BB,seval,← decide_not,okind,vpre,vpure,intBin,intPre,strBin,strPre,popTo,argSlots,fldV,fldAV,subCells,idxVV,idxAAV,idxSV,sliceV,sliceSV,boundV,szIs,storeOp,storeS,setRowV,eff,extV,buildV,splice,eqSV,fitsL,eqCells,eqCell,minmaxV,capV,binBV,nilCheckV,bytesV,V.cells,V.stays,Orc.nothing,a5',hfold,h0,h3,h4])
        refine effR_new fun id26 σ4 s4 a26 f26 => ?_
        have hs2 : srcRows σ4 20 (.own id26 0 1) = some [encN x] := by
          simp only [srcRows,a26]
          rw [if_pos (by simp)]
          simp [encN, Nd.cells, encI]
        have hs4 := (hs3.updK (hsub.none f5)).trans s4
        have e1 := s1 id _ hrow
        have n5i : id ≠ id5 := ne_new hrow f5
        have e2 := s2 id _ ((upd_ne n5i).trans e1)
        have n16i : id ≠ id16 := ne_new ((upd_ne n5i).trans e1) f16
        have n22i : id ≠ id22 := ne_new e2 f22
        have e3 := s3 id _ ((del_ne n16i).trans e2)
        have e4 := s4 id _ ((upd_ne n5i).trans ((del_ne n22i).trans e3))
        have hd2 : dstRows σ4 37 20 (.own id 0 i) = some ((l.take i).map encN, some id) := by
          simp only [dstRows,e4]
          rw [if_pos ⟨trivial, trivial, trivial, by rw [hln2]; exact Nat.le_refl _⟩, List.take_of_length_le (by rw [hln2]; exact Nat.le_refl _)]
        have hb2 : (i + 1) * 177 ≤ 140737488355328 := by omega
        simp -implicitDefEqProofs only [BB,seval,← decide_not,okind,vpre,vpure,intBin,intPre,strBin,strPre,popTo,argSlots,fldV,fldAV,subCells,idxVV,idxAAV,idxSV,sliceV,sliceSV,boundV,szIs,storeOp,storeS,setRowV,eff,extV,buildV,splice,eqSV,fitsL,eqCells,eqCell,minmaxV,capV,binBV,nilCheckV,bytesV,V.cells,V.stays,hs2,hd2,delO,hln2,hb2,h0,h3,h4]
        refine effR_app fun id27 σ5 s5 a27 f27 => ?_
        simp -implicitDefEqProofs only [BB,seval,← decide_not,okind,vpre,vpure,intBin,intPre,strBin,strPre,popTo,argSlots,fldV,fldAV,subCells,idxVV,idxAAV,idxSV,sliceV,sliceSV,boundV,szIs,storeOp,storeS,setRowV,eff,extV,buildV,splice,eqSV,fitsL,eqCells,eqCell,minmaxV,capV,binBV,nilCheckV,bytesV,V.cells,V.stays,h0,h3,h4]
        refine ⟨inR_i64 (by omega) (by omega), _, ?_, i + 1, by omega, rfl, (hs4.delK hnew).trans s5, .inr ⟨id27, ?_, ?_, hs4.none f27⟩, by simp⟩
        · omega
        · rw [htk]; simp; omega
        · rw [htk]; exact a27
      · have hie : i = l.length := by omega
        subst hie
        rw [List.take_length] at hrow
        exact ⟨_, _, SubStore.refl _, Wk.refl (SubStore.refl _) _, hsub, .inr ⟨id, by rw [List.length_map], hrow, hnew⟩⟩
theorem own_c (l : List Nd) (hl : l.length ≤ 10000 ∧ ∀ x ∈ l, x.words.length ≤ 1000000000) : PFun Tryd.prog 20 [encNs l] (encNs l) := fun σ =>
  (own_o l hl σ).weak fun _ _ h => h.2.retv h.1 rfl
end Go.Vc
namespace Go.Vc
open Go.Proofs
theorem styEq (s t : Sty) : (decide (s.top = t.top) && (decide (s.bottom = t.bottom) && (decide (s.padTop = t.padTop) && (decide (s.padBottom = t.padBottom) && (decide (s.inset = t.inset) && (decide (s.orphans = t.orphans) && (decide (s.widows = t.widows) && (decide (s.head = t.head) &&
    (decide (s.before = t.before) && (decide (s.after = t.after) && (decide (s.inside = t.inside) && decide (s.clear = t.clear)))))))))))) = decide (s = t) := by
  rw [Bool.eq_iff_iff]
  cases s; cases t
  simp
set_option maxRecDepth 100000 in
theorem one5_c (a b : Nd) (ha : a.words.length ≤ 200000000000000) (hb : b.words.length ≤ 200000000000000) : PFun Tryd.prog 38 [encN a, encN b] (.bool (decide (a = b))) := fun σ => by
  refine Contract.of_runs Tryd.func38 e38 k38 (by simp [c38]) ?_
  refine Runs.mix 6 ?_
  (refine Runs.of_step Orc.nothing 300 ?_; simp -implicitDefEqProofs only [BB,seval,← decide_not,okind,vpre,vpure,intBin,intPre,strBin,strPre,popTo,argSlots,fldV,fldAV,subCells,idxVV,idxAAV,idxSV,sliceV,sliceSV,boundV,szIs,storeOp,storeS,setRowV,eff,extV,buildV,splice,eqSV,fitsL,eqCells,eqCell,minmaxV,capV,binBV,nilCheckV,bytesV,V.cells,V.stays,Orc.nothing,c38,encN,Nd.cells])
  refine effR_new fun id2 σ1 s1 a2 f2 => ?_
  simp -implicitDefEqProofs only [BB,seval,← decide_not,okind,vpre,vpure,intBin,intPre,strBin,strPre,popTo,argSlots,fldV,fldAV,subCells,idxVV,idxAAV,idxSV,sliceV,sliceSV,boundV,szIs,storeOp,storeS,setRowV,eff,extV,buildV,splice,eqSV,fitsL,eqCells,eqCell,minmaxV,capV,binBV,nilCheckV,bytesV,V.cells,V.stays,a2]
  refine effR_new fun id3 σ2 s2 a3 f3 => ?_
  have n23 := ne_new a2 f3
  have a2 := s2 _ _ a2
  have hs := s1.trans s2
  simp -implicitDefEqProofs only [BB,seval,← decide_not,okind,vpre,vpure,intBin,intPre,strBin,strPre,popTo,argSlots,fldV,fldAV,subCells,idxVV,idxAAV,idxSV,sliceV,sliceSV,boundV,szIs,storeOp,storeS,setRowV,eff,extV,buildV,splice,eqSV,fitsL,eqCells,eqCell,minmaxV,capV,binBV,nilCheckV,bytesV,V.cells,V.stays,a2,a3,styEq,lenV_encI]
  refine And.intro (fun c1 => And.intro (fun c2 => And.intro (fun c3 => And.intro (fun c4 => And.intro (fun c5 => And.intro (fun c6 => And.intro (fun c7 => And.intro (fun c8 => And.intro (fun c9 => ?_) (fun c9 => ?_)) (fun c8 => ?_)) (fun c7 => ?_)) (fun c6 => ?_)) (fun c5 => ?_)) (fun c4 => ?_)) (fun c3 => ?_)) (fun c2 => ?_)) (fun c1 => ?_)
  case refine_2 =>
    have hl : a.words.length = b.words.length := by
      have : (a.words.length : Int) = b.words.length := by simpa using c9
      omega
    have hab : a = b ↔ a.words = b.words := by
      constructor
      · rintro rfl; rfl
      · intro hw
        cases a; cases b
        simp_all
    refine Runs.loop (fun m st => ∃ i : Nat, i ≤ a.words.length ∧ m = a.words.length - i ∧ a.words.take i = b.words.take i ∧ st.σ = σ2 ∧ st.s 2 = .ptr id2 0 0 ∧ st.s 3 = .ptr id3 0 0 ∧ st.s 5 = vI i) a.words.length ?_ ?_
    · exact ⟨0, by omega, by omega, rfl, rfl, rfl, rfl, rfl⟩
    · rintro m ⟨s, σ'⟩ ⟨i, hi, rfl, ht, hσ, h2, h3, h5⟩
      simp only at hσ h2 h3 h5
      subst hσ
      refine Runs.mix 6 ?_
      (refine Runs.of_step Orc.nothing 300 ?_; simp -implicitDefEqProofs only [BB,seval,effR_some,effD_some,← decide_not,okind,vpre,vpure,intBin,intPre,strBin,strPre,popTo,argSlots,fldV,fldAV,subCells,idxVV,idxAAV,idxSV,sliceV,sliceSV,boundV,szIs,storeOp,storeS,setRowV,eff,extV,buildV,splice,eqSV,fitsL,eqCells,eqCell,minmaxV,capV,binBV,nilCheckV,bytesV,V.cells,V.stays,Orc.nothing,h2,h3,h5,a2,a3,lenV_encI])
      refine And.intro (fun hlt => ?_) (fun hge => ?_)
      · have hlt' : i < a.words.length := by omega
        have hlt2 : i < b.words.length := by omega
        simp -implicitDefEqProofs only [BB,seval,effR_some,effD_some,← decide_not,okind,vpre,vpure,intBin,intPre,strBin,strPre,popTo,argSlots,fldV,fldAV,subCells,idxVV,idxAAV,idxSV,sliceV,sliceSV,boundV,szIs,storeOp,storeS,setRowV,eff,extV,buildV,splice,eqSV,fitsL,eqCells,eqCell,minmaxV,capV,binBV,nilCheckV,bytesV,V.cells,V.stays,idxAV_encI hlt',idxAV_encI hlt2,a2,a3,h2,h3,h5]
        refine And.intro (fun hd => ?_) (fun hd => ?_)
        · refine RetV.pure hs ?_
          rw [V.bool.injEq]; symm
          rw [decide_eq_false_iff_not, hab]
          intro hw
          apply hd
          simp [hw]
        · refine ⟨inR_i64 (by omega) (by omega), _, ?_, i + 1, by omega, rfl, ?_, ?_⟩
          · omega
          · rw [List.take_succ_eq_append_getElem hlt', List.take_succ_eq_append_getElem hlt2, ht]
            have : a.words[i] = b.words[i] := by simpa using hd
            rw [this]
          · simp
      · have hie : i = a.words.length := by omega
        refine RetV.pure hs ?_
        rw [V.bool.injEq]; symm
        rw [decide_eq_true_eq, hab]
        rw [hie, List.take_length] at ht
        rw [ht, hl, List.take_length]
  all_goals (refine RetV.pure hs ?_; rw [V.bool.injEq]; symm; rw [decide_eq_false_iff_not]; rintro rfl; simp at *)
def ndOf : V → Option Nd
  | .agg [.int .i64 a0, .int .i64 a1, .int .i64 a2, .int .i64 a3, .int .i64 a4, .int .i64 a5, .int .i64 a6, .int .i64 a7, .int .i64 a8, .int .i64 a9, .int .i64 a10, .int .i64 a11, .int .i64 a12, .int .i64 a13, .int .i64 a14, .int .i64 a15, .sl 1 rows, .int .i64 a17, .int .i64 a18, .int .i64 a19] =>
    (intsOf rows).bind fun ws => if ws.length ≤ 200000000000000 then some ⟨a0, a1, ⟨a2, a3, a4, a5, a6, a7, a8, a9, a10, a11, a12, a13⟩, a14, a15, ws, a17, a18, a19⟩ else none
  | _ => none
theorem ndOf_eq {v : V} {x : Nd} (h : ndOf v = some x) : v = encN x ∧ x.words.length ≤ 200000000000000 := by
  unfold ndOf at h
  split at h
  · rw [Option.bind_eq_some_iff] at h
    obtain ⟨ws, h1, h2⟩ := h
    split at h2
    · rename_i hw
      simp only [Option.some.injEq] at h2
      subst h2
      rw [intsOf_eq h1]
      exact ⟨rfl, hw⟩
    · cases h2
  · cases h
theorem ndOf_enc {x : Nd} (hw : x.words.length ≤ 200000000000000) : ndOf (.agg [.int .i64 x.kind, .int .i64 x.size, .int .i64 x.st.top, .int .i64 x.st.bottom, .int .i64 x.st.padTop, .int .i64 x.st.padBottom, .int .i64 x.st.inset, .int .i64 x.st.orphans, .int .i64 x.st.widows, .int .i64 x.st.head, .int .i64 x.st.before, .int .i64 x.st.after, .int .i64 x.st.inside, .int .i64 x.st.clear, .int .i64 x.line, .int .i64 x.space, encI x.words, .int .i64 x.side, .int .i64 x.w, .int .i64 x.h]) = some x := by
  show ((intsOf (x.words.map vI)).bind fun ws => if ws.length ≤ 200000000000000 then some (Nd.mk x.kind x.size ⟨x.st.top, x.st.bottom, x.st.padTop, x.st.padBottom, x.st.inset, x.st.orphans, x.st.widows, x.st.head, x.st.before, x.st.after, x.st.inside, x.st.clear⟩ x.line x.space ws x.side x.w x.h) else none) = _
  rw [intsOf_map, Option.bind_some, if_pos hw]
def o22 (f : FuncId) (args : List V) : Option V := if f = 38 then (match args with
  | [v, u] => (ndOf v).bind fun x => (ndOf u).bind fun y => some (.bool (decide (x = y)))
  | _ => none) else none
def O22 : Orc Tryd.prog where
  get f args _ := o22 f args
  ok f args σ v h := by
    unfold o22 at h
    split at h
    · rename_i hf
      subst hf
      split at h
      · rw [Option.bind_eq_some_iff] at h
        obtain ⟨x, h1, h2⟩ := h
        rw [Option.bind_eq_some_iff] at h2
        obtain ⟨y, h3, h4⟩ := h2
        simp only [Option.some.injEq] at h4
        subst h4
        obtain ⟨rfl, hx⟩ := ndOf_eq h1
        obtain ⟨rfl, hy⟩ := ndOf_eq h3
        exact one5_c x y hx hy σ
      · cases h
    · cases h
theorem O22_38 (v u : V) (σ : Store) : O22.get 38 [v, u] σ = (ndOf v).bind fun x => (ndOf u).bind fun y => some (.bool (decide (x = y))) := rfl
set_option maxRecDepth 100000 in
theorem same5_c (a b : List Nd) (ha : Fine a) (hb : Fine b) : PFun Tryd.prog 14 [encNs a, encNs b] (.bool (decide (a = b))) := fun σ => by
  refine Contract.of_runs Tryd.func14 e14 k14 (by simp [c14]) ?_
  refine Runs.mix 6 ?_
  (refine Runs.of_step Orc.nothing 300 ?_; simp -implicitDefEqProofs only [BB,seval,effR_some,effD_some,← decide_not,okind,vpre,vpure,intBin,intPre,strBin,strPre,popTo,argSlots,fldV,fldAV,subCells,idxVV,idxAAV,idxSV,sliceV,sliceSV,boundV,szIs,storeOp,storeS,setRowV,eff,extV,buildV,splice,eqSV,fitsL,eqCells,eqCell,minmaxV,capV,binBV,nilCheckV,bytesV,V.cells,V.stays,Orc.nothing,c14,lenV_encNs])
  refine And.intro (fun hl => ?_) (fun hl => ?_)
  · refine RetV.same ?_
    rw [V.bool.injEq]; symm
    rw [decide_eq_false_iff_not]
    rintro rfl
    simp at hl
  · have hl : a.length = b.length := by
      have : (a.length : Int) = b.length := by simpa using hl
      omega
    refine Runs.loop (fun m st => ∃ i : Nat, i ≤ a.length ∧ m = a.length - i ∧ a.take i = b.take i ∧ st.σ = σ ∧ st.s 0 = encNs a ∧ st.s 1 = encNs b ∧ st.s 5 = vI i) a.length ?_ ?_
    · exact ⟨0, by omega, by omega, rfl, rfl, rfl, rfl, rfl⟩
    · rintro m ⟨s, σ'⟩ ⟨i, hi, rfl, ht, hσ, h0, h1, h5⟩
      simp only at hσ h0 h1 h5
      subst hσ
      have hal := ha.1
      refine Runs.mix 6 ?_
      (refine Runs.of_step O22 300 ?_; simp -implicitDefEqProofs only [BB,seval,effR_some,effD_some,← decide_not,okind,vpre,vpure,intBin,intPre,strBin,strPre,popTo,argSlots,fldV,fldAV,subCells,idxVV,idxAAV,idxSV,sliceV,sliceSV,boundV,szIs,storeOp,storeS,setRowV,eff,extV,buildV,splice,eqSV,fitsL,eqCells,eqCell,minmaxV,capV,binBV,nilCheckV,bytesV,V.cells,V.stays,h0,h1,h5,lenV_encNs])
      refine And.intro (fun hlt => ?_) (fun hge => ?_)
      · have hlt' : i < a.length := by omega
        have hlt2 : i < b.length := by omega
        have hx := ha.2 _ (List.getElem_mem hlt')
        have hy := hb.2 _ (List.getElem_mem hlt2)
        have hta := List.take_succ_eq_append_getElem hlt'
        have htb := List.take_succ_eq_append_getElem hlt2
        have hxe : a[i]? = some a[i] := by simp [hlt']
        have hye : b[i]? = some b[i] := by simp [hlt2]
        generalize hxg : a[i] = x at *
        generalize hyg : b[i] = y at *
        simp -implicitDefEqProofs only [BB,seval,effR_some,effD_some,← decide_not,okind,vpre,vpure,intBin,intPre,strBin,strPre,popTo,argSlots,fldV,fldAV,subCells,idxVV,idxAAV,idxSV,sliceV,sliceSV,boundV,szIs,storeOp,storeS,setRowV,eff,extV,buildV,splice,eqSV,fitsL,eqCells,eqCell,minmaxV,capV,binBV,nilCheckV,bytesV,V.cells,V.stays,idxAV_encNs hlt',idxAV_encNs hlt2,hxg,hyg,Nd.cells,O22_38,ndOf_enc hx,ndOf_enc hy,Option.bind_some,h0,h1,h5]
        refine And.intro (fun hd => ?_) (fun hd => ?_)
        · refine RetV.same ?_
          rw [V.bool.injEq]; symm
          rw [decide_eq_false_iff_not]
          rintro rfl
          rw [hxe] at hye
          simp at hye
          exact hd hye
        · refine ⟨inR_i64 (by omega) (by omega), _, ?_, i + 1, by omega, rfl, ?_, ?_⟩
          · omega
          · rw [hta, htb, ht]
            have : x = y := by simpa using hd
            rw [this]
          · simp
      · have hie : i = a.length := by omega
        refine RetV.same ?_
        rw [V.bool.injEq]; symm
        rw [decide_eq_true_eq]
        rw [hie, List.take_length] at ht
        rw [ht, hl, List.take_length]
end Go.Vc
